/- What the functions of a package do, as equations of plain propositions: printed by a program that carries the code out on symbols. -/
import Derived.Test.YtajnbkhgnppckaaGreatDoorWEv
namespace Go.Proofs.YtajnbkhgnppckaaGreatDoor
open Go.RowKit
set_option linter.unusedVariables false
set_option maxRecDepth 100000
def zvg : Ann := { own := [5], live := [(1, ([1, 30, 31, 32], []))], n := 75, nils := [], pubs := [] }
def zwg (a0 : MdlD) (R : D → Prop) (n1 : Nat) (v2 : Int) : Prop := LP zvg Tryz.f36 [1, 1, 1, 0, 1, 0, 0] 1 n1 ⟨[(1, .iptr [.sl .var a0.vars, .sl .con a0.cons, dI a0.goal, dI a0.var] 0), (30, .sl .con a0.cons), (31, dI (a0.cons.length : Int)), (32, dI v2)], []⟩ (blockK 1 (sK zvg Tryz.f36 [1, 1, 1, 1] 0 (eK Tryz.f36 R)))
theorem zPl (a0 : MdlD) (R : D → Prop) (n1 : Nat) (v2 : Int) : zwg a0 R (n1 + 1) v2 =
 (sel (decide (v2 < (a0.cons.length : Int)))
 (inb v2 a0.cons.length = true ∧
 Call1 Tryz.prog zlf [dM a0, dC (at' .con a0.cons v2.toNat)] .int fun m3 =>
 sel (!decide (m3 = 0))
 (R (dI m3))
 (zwg a0 R n1 (w64 (v2 + 1))))
 (sel (decide (a0.goal < 0))
 (R (dI 7))
 (sel (decide (2 < a0.goal))
 (R (dI 7))
 (sel (decide (a0.goal = 0))
 (sel (!decide (a0.var = 0))
 (R (dI 1))
 (sel (!decide (a0.goal = 0))
 (Call1 Tryz.prog zhb [dI a0.var, dI 0, dI (w64 ((a0.vars.length : Int) - 1))] .bool fun m4 =>
 sel (!m4)
 (R (dI 5))
 (R (dI 0)))
 (R (dI 0))))
 (sel (!decide (a0.goal = 0))
 (Call1 Tryz.prog zhb [dI a0.var, dI 0, dI (w64 ((a0.vars.length : Int) - 1))] .bool fun m5 =>
 sel (!m5)
 (R (dI 5))
 (R (dI 0)))
 (R (dI 0))))))) := by kernel_rfl
theorem z3s (a0 : MdlD) (R : D → Prop) : FD zvg Tryz.f36 [dM a0] R =
 (sel (decide ((a0.vars.length : Int) = 0))
 (R (dI 1))
 (sel (decide (6 < (a0.vars.length : Int)))
 (R (dI 2))
 (sel (decide (8 < (a0.cons.length : Int)))
 (R (dI 2))
 (Call1 Tryz.prog zkf [.sl .var a0.vars] .int fun m1 =>
 sel (!decide (m1 = 0))
 (R (dI m1))
 (∃ n1, zwg a0 R n1 0))))) := by kernel_rfl
theorem z4s (a0 : MdlD) : SatI zvg Tryz.f36 zGd [dM a0] := satD Tryz.func36 (by kernel_rfl) Tryz.ntmps36 rfl
def zxg : Ann := { own := [4], live := [(0, ([0, 5, 6, 7], []))], n := 49, nils := [], pubs := [] }
def zyg (a0 : List VarD) (R : D → Prop) (n0 : Nat) (v1 : Int) : Prop := LP zxg Tryz.f57 [1, 0, 1, 0, 0] 0 n0 ⟨[(0, .sl .var a0), (5, .sl .var a0), (6, dI (a0.length : Int)), (7, dI v1)], []⟩ (blockK 0 (sK zxg Tryz.f57 [1, 1] 0 (eK Tryz.f57 R)))
theorem zQl (a0 : List VarD) (R : D → Prop) (n0 : Nat) (v1 : Int) : zyg a0 R (n0 + 1) v1 =
 (sel (decide (v1 < (a0.length : Int)))
 (inb v1 a0.length = true ∧
 Call1 Tryz.prog z3i [.str ((at' .var a0 v1.toNat).name)] .bool fun m2 =>
 sel (!m2)
 (R (dI 1))
 (inSl 0 v1 a0.length = true ∧
 Call1 Tryz.prog zvf [.sl .var ((a0.take v1.toNat).drop 0), .clo zwf none [.iptr [.str ((at' .var a0 v1.toNat).name), dI ((at' .var a0 v1.toNat).lo), dI ((at' .var a0 v1.toNat).hi)] 0]] .bool fun s3 =>
 sel s3
 (R (dI 6))
 (Call1 Tryz.prog zhb [dI ((at' .var a0 v1.toNat).lo), dI (-50), dI 50] .bool fun m4 =>
 sel (!m4)
 (R (dI 3))
 (Call1 Tryz.prog zhb [dI ((at' .var a0 v1.toNat).hi), dI (-50), dI 50] .bool fun m5 =>
 sel (!m5)
 (R (dI 3))
 (sel (decide (((at' .var a0 v1.toNat).hi) < ((at' .var a0 v1.toNat).lo)))
 (R (dI 3))
 (sel (decide (6 ≤ (w64 (((at' .var a0 v1.toNat).hi) - ((at' .var a0 v1.toNat).lo)))))
 (R (dI 2))
 (zyg a0 R n0 (w64 (v1 + 1)))))))))
 (R (dI 0))) := by kernel_rfl
theorem z5s (a0 : List VarD) (R : D → Prop) : FD zxg Tryz.f57 [.sl .var a0] R =
 (∃ n0, zyg a0 R n0 0) := by kernel_rfl
theorem z6s (a0 : List VarD) : SatI zxg Tryz.f57 zkf [.sl .var a0] := satD Tryz.func57 (by kernel_rfl) Tryz.ntmps57 rfl
def zzg : Ann := { own := [5, 6, 8], live := [(1, ([6, 75, 76, 77], []))], n := 94, nils := [], pubs := [] }
def zAg (a1 : ConD) (R : D → Prop) (n1 : Nat) (v7 : Int) : Prop := LP zzg Tryz.f58 [1, 1, 1, 1, 0, 1, 0, 0] 1 n1 ⟨[(6, .iptr [.clo zzb none []] 0), (75, .sl .lit a1.lits), (76, dI (a1.lits.length : Int)), (77, dI v7)], []⟩ (blockK 1 (sK zzg Tryz.f58 [1, 1, 1, 1, 1] 0 (eK Tryz.f58 R)))
theorem zRl (a1 : ConD) (R : D → Prop) (n1 : Nat) (v7 : Int) : zAg a1 R (n1 + 1) v7 =
 (sel (decide (v7 < (a1.lits.length : Int)))
 (inb v7 a1.lits.length = true ∧
 sel (decide (((at' .lit a1.lits v7.toNat).op) < 1))
 (R (dI 7))
 (sel (decide (4 < ((at' .lit a1.lits v7.toNat).op)))
 (R (dI 7))
 (Call1 Tryz.prog zzb [dI ((at' .lit a1.lits v7.toNat).n)] .bool fun m8 =>
 sel m8
 (R (dI 3))
 (zAg a1 R n1 (w64 (v7 + 1))))))
 (R (dI 0))) := by kernel_rfl
theorem z7s (a0 : MdlD) (a1 : ConD) (R : D → Prop) : FD zzg Tryz.f58 [dM a0, dC a1] R =
 (sel (decide (a1.kind < 1))
 (R (dI 7))
 (sel (decide (10 < a1.kind))
 (R (dI 7))
 (sel (decide (4 < (a1.vars.length : Int)))
 (R (dI 2))
 (sel (decide (4 < (a1.lits.length : Int)))
 (R (dI 2))
 (sel (decide (8 < (a1.consts.length : Int)))
 (R (dI 2))
 (sel (decide (20 < (a1.rows.length : Int)))
 (R (dI 2))
 (Call1 Tryz.prog zxf [dC a1] .bool fun m1 =>
 sel (!m1)
 (R (dI 1))
 (Call1 Tryz.prog zqc [.sl .int a1.vars, .clo zNd none [.iptr [.sl .var a0.vars, .sl .con a0.cons, dI a0.goal, dI a0.var] 0]] .bool fun s2 =>
 sel s2
 (R (dI 5))
 (Call1 Tryz.prog zWc [.sl .lit a1.lits, .clo zyf none [.iptr [.clo zNd none [.iptr [.sl .var a0.vars, .sl .con a0.cons, dI a0.goal, dI a0.var] 0]] 0]] .bool fun s3 =>
 sel s3
 (R (dI 5))
 (Call1 Tryz.prog zqc [.sl .int a1.consts, .clo zzb none []] .bool fun s4 =>
 sel s4
 (R (dI 3))
 (Call1 Tryz.prog zzb [dI a1.n] .bool fun m5 =>
 sel m5
 (R (dI 3))
 (Call1 Tryz.prog znb [dS a1.rows, .clo zzf none [.iptr [.clo zzb none []] 0]] .bool fun s6 =>
 sel s6
 (R (dI 3))
 (∃ n1, zAg a1 R n1 0))))))))))))) := by kernel_rfl
theorem z8s (a0 : MdlD) (a1 : ConD) : SatI zzg Tryz.f58 zlf [dM a0, dC a1] := satD Tryz.func58 (by kernel_rfl) Tryz.ntmps58 rfl
def zSl : Ann := { own := [], live := [], n := 15, nils := [], pubs := [] }
theorem z9s (a0 : Int) (a1 : Int) (a2 : Int) (R : D → Prop) : FD zSl Tryz.f59 [dI a0, dI a1, dI a2] R =
 (sel (decide (a1 ≤ a0))
 (R (dB (decide (a0 ≤ a2))))
 (R (dB false))) := by kernel_rfl
theorem zat (a0 : Int) (a1 : Int) (a2 : Int) : SatI zSl Tryz.f59 zhb [dI a0, dI a1, dI a2] := satD Tryz.func59 (by kernel_rfl) Tryz.ntmps59 rfl
def zm : Ann := { own := [12, 45, 97], live := [(1, ([2, 5, 7, 25, 26, 27], [])), (3, ([2, 5, 10, 48, 49], [45])), (5, ([2, 5, 12, 88, 89], [12, 1012000])), (7, ([5, 14, 120, 121], []))], n := 166, nils := [(12, (0, (3, .int)))], pubs := [] }
def zBg (a0 : ConD) (a1 : List Int) (R : D → Prop) (n1 : Nat) (v1 : Int) (v2 : Int) : Prop := LP zm Tryz.f76 [1, 1, 1, 0, 1, 0, 1, 0, 1, 0, 1, 0, 0] 1 n1 ⟨[(2, .iptr [dI a0.kind, .sl .int a0.vars, .sl .int a0.consts, dI a0.n, dS a0.rows, .sl .lit a0.lits] 0), (5, .clo zf none [.iptr [.sl .int a1] 0, .iptr [dI a0.kind, .sl .int a0.vars, .sl .int a0.consts, dI a0.n, dS a0.rows, .sl .lit a0.lits] 0]), (7, dI v1), (25, .sl .int a0.consts), (26, dI (a0.consts.length : Int)), (27, dI v2)], []⟩ (blockK 1 (sK zm Tryz.f76 [1, 1, 1, 0, 1, 0, 1, 0, 1, 1] 0 (blockK 0 (sK zm Tryz.f76 [1, 1, 1, 1] 0 (eK Tryz.f76 R)))))
def zCg (a0 : ConD) (a1 : List Int) (R : D → Prop) (n1_2 : Nat) (v5 : Int) (v6 : Int) : Prop := LP zm Tryz.f76 [1, 1, 1, 0, 1, 0, 1, 0, 1, 0, 1, 0, 0] 1 n1_2 ⟨[(2, .iptr [dI a0.kind, .sl .int a0.vars, .sl .int a0.consts, dI a0.n, dS a0.rows, .sl .lit a0.lits] 0), (5, .clo zf none [.iptr [.sl .int a1] 0, .iptr [dI a0.kind, .sl .int a0.vars, .sl .int a0.consts, dI a0.n, dS a0.rows, .sl .lit a0.lits] 0]), (7, dI v5), (25, .sl .int a0.consts), (26, dI (a0.consts.length : Int)), (27, dI v6)], []⟩ (blockK 1 (sK zm Tryz.f76 [1, 1, 1, 0, 1, 0, 1, 0, 1, 1] 0 (blockK 0 (sK zm Tryz.f76 [1, 1, 1, 1] 0 (eK Tryz.f76 R)))))
def zDg (a0 : ConD) (a1 : List Int) (R : D → Prop) (n1_3 : Nat) (v9 : Int) (v10 : Int) : Prop := LP zm Tryz.f76 [1, 1, 1, 0, 1, 0, 1, 0, 1, 0, 1, 0, 0] 1 n1_3 ⟨[(2, .iptr [dI a0.kind, .sl .int a0.vars, .sl .int a0.consts, dI a0.n, dS a0.rows, .sl .lit a0.lits] 0), (5, .clo zf none [.iptr [.sl .int a1] 0, .iptr [dI a0.kind, .sl .int a0.vars, .sl .int a0.consts, dI a0.n, dS a0.rows, .sl .lit a0.lits] 0]), (7, dI v9), (25, .sl .int a0.consts), (26, dI (a0.consts.length : Int)), (27, dI v10)], []⟩ (blockK 1 (sK zm Tryz.f76 [1, 1, 1, 0, 1, 0, 1, 0, 1, 1] 0 (blockK 0 (sK zm Tryz.f76 [1, 1, 1, 1] 0 (eK Tryz.f76 R)))))
def zEg (a0 : ConD) (a1 : List Int) (R : D → Prop) (n3 : Nat) (v13 : Int) (m14 : List (Int × Int)) : Prop := LP zm Tryz.f76 [1, 1, 1, 0, 1, 0, 1, 1, 1, 0, 1, 0, 1, 0, 0] 3 n3 ⟨[(2, .iptr [dI a0.kind, .sl .int a0.vars, .sl .int a0.consts, dI a0.n, dS a0.rows, .sl .lit a0.lits] 0), (5, .clo zf none [.iptr [.sl .int a1] 0, .iptr [dI a0.kind, .sl .int a0.vars, .sl .int a0.consts, dI a0.n, dS a0.rows, .sl .lit a0.lits] 0]), (10, .own 45), (48, dI (a0.vars.length : Int)), (49, dI v13)], [(45, .mp .int .int m14)]⟩ (blockK 3 (sK zm Tryz.f76 [1, 1, 1, 0, 1, 0, 1, 1, 1, 0, 1, 1] 0 (blockK 0 (sK zm Tryz.f76 [1, 1, 1, 1] 0 (eK Tryz.f76 R)))))
def zFg (a0 : ConD) (a1 : List Int) (R : D → Prop) (n5 : Nat) (v20 : Int) (l21 : List Int) : Prop := LP zm Tryz.f76 [1, 1, 1, 0, 1, 0, 1, 1, 1, 1, 1, 1, 1, 0, 1, 0, 1, 0, 0] 5 n5 ⟨[(2, .iptr [dI a0.kind, .sl .int a0.vars, .sl .int a0.consts, dI a0.n, dS a0.rows, .sl .lit a0.lits] 0), (5, .clo zf none [.iptr [.sl .int a1] 0, .iptr [dI a0.kind, .sl .int a0.vars, .sl .int a0.consts, dI a0.n, dS a0.rows, .sl .lit a0.lits] 0]), (12, .ptr 12 0), (88, dI (a0.vars.length : Int)), (89, dI v20)], [(12, .cells [.own 1012000]), (1012000, .row 3 .int l21)]⟩ (blockK 5 (sK zm Tryz.f76 [1, 1, 1, 0, 1, 0, 1, 1, 1, 1, 1, 1, 1, 0, 1, 1] 0 (blockK 0 (sK zm Tryz.f76 [1, 1, 1, 1] 0 (eK Tryz.f76 R)))))
def zGg (a0 : ConD) (a1 : List Int) (R : D → Prop) (n7 : Nat) (v28 : Int) (v29 : Int) : Prop := LP zm Tryz.f76 [1, 1, 1, 0, 1, 0, 1, 1, 1, 1, 1, 1, 1, 1, 1, 1, 1, 0, 1, 0, 1, 0, 0] 7 n7 ⟨[(5, .clo zf none [.iptr [.sl .int a1] 0, .iptr [dI a0.kind, .sl .int a0.vars, .sl .int a0.consts, dI a0.n, dS a0.rows, .sl .lit a0.lits] 0]), (14, dI v28), (120, dI (((a0.vars.take (a0.vars.length : Int).toNat).drop 1).length : Int)), (121, dI v29)], []⟩ (blockK 7 (sK zm Tryz.f76 [1, 1, 1, 0, 1, 0, 1, 1, 1, 1, 1, 1, 1, 1, 1, 1, 1, 0, 1, 1] 0 (blockK 0 (sK zm Tryz.f76 [1, 1, 1, 1] 0 (eK Tryz.f76 R)))))
theorem zbt (a0 : ConD) (a1 : List Int) (R : D → Prop) (n1 : Nat) (v1 : Int) (v2 : Int) : zBg a0 a1 R (n1 + 1) v1 v2 =
 (sel (decide (v2 < (a0.consts.length : Int)))
 (inb v2 a0.consts.length = true ∧
 Call1 Tryz.prog zf [dI v2, .iptr [.sl .int a1] 0, .iptr [dI a0.kind, .sl .int a0.vars, .sl .int a0.consts, dI a0.n, dS a0.rows, .sl .lit a0.lits] 0] .int fun m3 =>
 zBg a0 a1 R n1 (w64 (v1 + (w64 ((at' .int a0.consts v2.toNat) * m3)))) (w64 (v2 + 1)))
 (Call1 Tryz.prog z0b [dC a0, dI v1] .bool fun m4 =>
 R (dB m4))) := by kernel_rfl
theorem zct (a0 : ConD) (a1 : List Int) (R : D → Prop) (n1_2 : Nat) (v5 : Int) (v6 : Int) : zCg a0 a1 R (n1_2 + 1) v5 v6 =
 (sel (decide (v6 < (a0.consts.length : Int)))
 (inb v6 a0.consts.length = true ∧
 Call1 Tryz.prog zf [dI v6, .iptr [.sl .int a1] 0, .iptr [dI a0.kind, .sl .int a0.vars, .sl .int a0.consts, dI a0.n, dS a0.rows, .sl .lit a0.lits] 0] .int fun m7 =>
 zCg a0 a1 R n1_2 (w64 (v5 + (w64 ((at' .int a0.consts v6.toNat) * m7)))) (w64 (v6 + 1)))
 (Call1 Tryz.prog z0b [dC a0, dI v5] .bool fun m8 =>
 R (dB m8))) := by kernel_rfl
theorem zdt (a0 : ConD) (a1 : List Int) (R : D → Prop) (n1_3 : Nat) (v9 : Int) (v10 : Int) : zDg a0 a1 R (n1_3 + 1) v9 v10 =
 (sel (decide (v10 < (a0.consts.length : Int)))
 (inb v10 a0.consts.length = true ∧
 Call1 Tryz.prog zf [dI v10, .iptr [.sl .int a1] 0, .iptr [dI a0.kind, .sl .int a0.vars, .sl .int a0.consts, dI a0.n, dS a0.rows, .sl .lit a0.lits] 0] .int fun m11 =>
 zDg a0 a1 R n1_3 (w64 (v9 + (w64 ((at' .int a0.consts v10.toNat) * m11)))) (w64 (v10 + 1)))
 (Call1 Tryz.prog z0b [dC a0, dI v9] .bool fun m12 =>
 R (dB m12))) := by kernel_rfl
theorem zet (a0 : ConD) (a1 : List Int) (R : D → Prop) (n3 : Nat) (v13 : Int) (m14 : List (Int × Int)) : zEg a0 a1 R (n3 + 1) v13 m14 =
 (sel (decide (v13 < (a0.vars.length : Int)))
 (Call1 Tryz.prog zf [dI v13, .iptr [.sl .int a1] 0, .iptr [dI a0.kind, .sl .int a0.vars, .sl .int a0.consts, dI a0.n, dS a0.rows, .sl .lit a0.lits] 0] .int fun m15 =>
 roomM (m14.length + 1) = true ∧
 zEg a0 a1 R n3 (w64 (v13 + 1)) (mput .int .int m15 v13 m14))
 (R (dB (decide ((m14.length : Int) = (a0.vars.length : Int)))))) := by kernel_rfl
theorem zft (a0 : ConD) (a1 : List Int) (R : D → Prop) (n5 : Nat) (v20 : Int) (l21 : List Int) : zFg a0 a1 R (n5 + 1) v20 l21 =
 (sel (decide (v20 < (a0.vars.length : Int)))
 (Call1 Tryz.prog zf [dI v20, .iptr [.sl .int a1] 0, .iptr [dI a0.kind, .sl .int a0.vars, .sl .int a0.consts, dI a0.n, dS a0.rows, .sl .lit a0.lits] 0] .int fun m22 =>
 room .int (l21.length + ([m22]).length) = true ∧
 zFg a0 a1 R n5 (w64 (v20 + 1)) (l21 ++ ([m22])))
 (Call1 Tryz.prog znb [dS a0.rows, .clo zEf none [.iptr [.sl .int l21] 0]] .bool fun s23 =>
 R (dB s23))) := by kernel_rfl
theorem zgt (a0 : ConD) (a1 : List Int) (R : D → Prop) (n7 : Nat) (v28 : Int) (v29 : Int) : zGg a0 a1 R (n7 + 1) v28 v29 =
 (sel (decide (v29 < (((a0.vars.take (a0.vars.length : Int).toNat).drop 1).length : Int)))
 (Call1 Tryz.prog zf [dI (w64 (1 + v29)), .iptr [.sl .int a1] 0, .iptr [dI a0.kind, .sl .int a0.vars, .sl .int a0.consts, dI a0.n, dS a0.rows, .sl .lit a0.lits] 0] .int fun m30 =>
 zGg a0 a1 R n7 (if m30 > v28 then m30 else v28) (w64 (v29 + 1)))
 (Call1 Tryz.prog zf [dI 0, .iptr [.sl .int a1] 0, .iptr [dI a0.kind, .sl .int a0.vars, .sl .int a0.consts, dI a0.n, dS a0.rows, .sl .lit a0.lits] 0] .int fun m31 =>
 R (dB (decide (m31 = v28))))) := by kernel_rfl
theorem zht (a0 : ConD) (a1 : List Int) (R : D → Prop) : FD zm Tryz.f76 [dC a0, .sl .int a1] R =
 (sel (decide (a0.kind = 1))
 (∃ n1, zBg a0 a1 R n1 0 0)
 (sel (decide (a0.kind = 2))
 (∃ n1_2, zCg a0 a1 R n1_2 0 0)
 (sel (decide (a0.kind = 3))
 (∃ n1_3, zDg a0 a1 R n1_3 0 0)
 (sel (decide (a0.kind = 4))
 (∃ n3, zEg a0 a1 R n3 0 ([] : List (Int × Int)))
 (sel (decide (a0.kind = 5))
 (Call1 Tryz.prog zf [dI 0, .iptr [.sl .int a1] 0, .iptr [dI a0.kind, .sl .int a0.vars, .sl .int a0.consts, dI a0.n, dS a0.rows, .sl .lit a0.lits] 0] .int fun m16 =>
 Call1 Tryz.prog zhb [dI m16, dI 0, dI (w64 ((a0.consts.length : Int) - 1))] .bool fun m17 =>
 sel m17
 (Call1 Tryz.prog zf [dI 0, .iptr [.sl .int a1] 0, .iptr [dI a0.kind, .sl .int a0.vars, .sl .int a0.consts, dI a0.n, dS a0.rows, .sl .lit a0.lits] 0] .int fun m18 =>
 inb m18 a0.consts.length = true ∧
 Call1 Tryz.prog zf [dI 1, .iptr [.sl .int a1] 0, .iptr [dI a0.kind, .sl .int a0.vars, .sl .int a0.consts, dI a0.n, dS a0.rows, .sl .lit a0.lits] 0] .int fun m19 =>
 R (dB (decide ((at' .int a0.consts m18.toNat) = m19))))
 (R (dB false)))
 (sel (decide (a0.kind = 6))
 (∃ n5, zFg a0 a1 R n5 0 ([] : List Int))
 (sel (decide (a0.kind = 7))
 (Call1 Tryz.prog zf [dI 0, .iptr [.sl .int a1] 0, .iptr [dI a0.kind, .sl .int a0.vars, .sl .int a0.consts, dI a0.n, dS a0.rows, .sl .lit a0.lits] 0] .int fun m24 =>
 Call1 Tryz.prog zf [dI 1, .iptr [.sl .int a1] 0, .iptr [dI a0.kind, .sl .int a0.vars, .sl .int a0.consts, dI a0.n, dS a0.rows, .sl .lit a0.lits] 0] .int fun m25 =>
 Call1 Tryz.prog zf [dI 2, .iptr [.sl .int a1] 0, .iptr [dI a0.kind, .sl .int a0.vars, .sl .int a0.consts, dI a0.n, dS a0.rows, .sl .lit a0.lits] 0] .int fun m26 =>
 R (dB (decide ((w64 (m24 * m25)) = m26))))
 (sel (decide (a0.kind = 8))
 (Call1 Tryz.prog zf [dI 1, .iptr [.sl .int a1] 0, .iptr [dI a0.kind, .sl .int a0.vars, .sl .int a0.consts, dI a0.n, dS a0.rows, .sl .lit a0.lits] 0] .int fun m27 =>
 inSl 1 (a0.vars.length : Int) a0.vars.length = true ∧
 ∃ n7, zGg a0 a1 R n7 m27 0)
 (sel (decide (a0.kind = 9))
 (Call1 Tryz.prog zWc [.sl .lit a0.lits, .clo zAb none [.iptr [.sl .int a1] 0]] .bool fun s32 =>
 R (dB s32))
 (inb 0 a0.lits.length = true ∧
 Call1 Tryz.prog zAb [dL (at' .lit a0.lits 0), .iptr [.sl .int a1] 0] .bool fun m33 =>
 sel m33
 (Call1 Tryz.prog zf [dI 0, .iptr [.sl .int a1] 0, .iptr [dI a0.kind, .sl .int a0.vars, .sl .int a0.consts, dI a0.n, dS a0.rows, .sl .lit a0.lits] 0] .int fun m34 =>
 sel (decide (m34 = 1))
 (R (dB true))
 (inb 0 a0.lits.length = true ∧
 Call1 Tryz.prog zAb [dL (at' .lit a0.lits 0), .iptr [.sl .int a1] 0] .bool fun m35 =>
 sel (!m35)
 (Call1 Tryz.prog zf [dI 0, .iptr [.sl .int a1] 0, .iptr [dI a0.kind, .sl .int a0.vars, .sl .int a0.consts, dI a0.n, dS a0.rows, .sl .lit a0.lits] 0] .int fun m36 =>
 R (dB (decide (m36 = 0))))
 (R (dB false))))
 (inb 0 a0.lits.length = true ∧
 Call1 Tryz.prog zAb [dL (at' .lit a0.lits 0), .iptr [.sl .int a1] 0] .bool fun m37 =>
 sel (!m37)
 (Call1 Tryz.prog zf [dI 0, .iptr [.sl .int a1] 0, .iptr [dI a0.kind, .sl .int a0.vars, .sl .int a0.consts, dI a0.n, dS a0.rows, .sl .lit a0.lits] 0] .int fun m38 =>
 R (dB (decide (m38 = 0))))
 (R (dB false))))))))))))) := by kernel_rfl
theorem zit (a0 : ConD) (a1 : List Int) : SatI zm Tryz.f76 zKd [dC a0, .sl .int a1] := satD Tryz.func76 (by kernel_rfl) Tryz.ntmps76 rfl
def zHg : Ann := { own := [5, 20], live := [(0, ([3, 10, 11, 12], [30512]))], n := 26, nils := [], pubs := [] }
def zIg (a0 : ConD) (R : D → Prop) (n0 : Nat) (v2 : Int) (l3 : List Int) : Prop := LP zHg Tryz.f77 [1, 1, 0, 1, 0, 0] 0 n0 ⟨[(3, .own 30512), (10, .sl .lit a0.lits), (11, dI (a0.lits.length : Int)), (12, dI v2)], [(30512, .row 3 .int l3)]⟩ (blockK 0 (sK zHg Tryz.f77 [1, 1, 1] 0 (eK Tryz.f77 R)))
theorem zjt (a0 : ConD) (R : D → Prop) (n0 : Nat) (v2 : Int) (l3 : List Int) : zIg a0 R (n0 + 1) v2 l3 =
 (sel (decide (v2 < (a0.lits.length : Int)))
 (inb v2 a0.lits.length = true ∧
 room .int (l3.length + ([(at' .lit a0.lits v2.toNat).var]).length) = true ∧
 zIg a0 R n0 (w64 (v2 + 1)) (l3 ++ ([(at' .lit a0.lits v2.toNat).var])))
 (∃ i4 : List Int, SatH Tryz.prog zQd [.own 1000] [(1000, .row 3 .int l3)] (.tup []) [(1000, .row 3 .int i4)] ∧
 ∃ i5 : List Int, SatH Tryz.prog zRd [.own 1000] [(1000, .row 3 .int i4)] (.sl .int i5) [] ∧
 R (.sl .int i5))) := by kernel_rfl
theorem zkt (a0 : ConD) (R : D → Prop) : FD zHg Tryz.f77 [dC a0] R =
 (∃ i1 : List Int, SatH Tryz.prog zXc [.sl .int a0.vars] [] (.own 3000) [(3000, .row 3 .int i1)] ∧
 ∃ n0, zIg a0 R n0 0 i1) := by kernel_rfl
theorem zlt (a0 : ConD) : SatI zHg Tryz.f77 zrc [dC a0] := satD Tryz.func77 (by kernel_rfl) Tryz.ntmps77 rfl
def zTl : Ann := { own := [], live := [], n := 9, nils := [], pubs := [] }
theorem zmt (a0 : VarD) (c0 : VarD) (R : D → Prop) : FD zTl Tryz.f90 [dV a0, .iptr [.str c0.name, dI c0.lo, dI c0.hi] 0] R =
 (R (dB (decide (a0.name = c0.name)))) := by kernel_rfl
theorem znt (a0 : VarD) (c0 : VarD) : SatI zTl Tryz.f90 zwf [dV a0, .iptr [.str c0.name, dI c0.lo, dI c0.hi] 0] := satD Tryz.func90 (by kernel_rfl) Tryz.ntmps90 rfl
def zUl : Ann := { own := [], live := [], n := 11, nils := [], pubs := [] }
theorem zot (a0 : Int) (c0 : MdlD) (R : D → Prop) : FD zUl Tryz.f91 [dI a0, .iptr [.sl .var c0.vars, .sl .con c0.cons, dI c0.goal, dI c0.var] 0] R =
 (Call1 Tryz.prog zhb [dI a0, dI 0, dI (w64 ((c0.vars.length : Int) - 1))] .bool fun m1 =>
 R (dB (!m1))) := by kernel_rfl
theorem zpt (a0 : Int) (c0 : MdlD) : SatI zUl Tryz.f91 zNd [dI a0, .iptr [.sl .var c0.vars, .sl .con c0.cons, dI c0.goal, dI c0.var] 0] := satD Tryz.func91 (by kernel_rfl) Tryz.ntmps91 rfl
def zVl : Ann := { own := [], live := [], n := 6, nils := [], pubs := [] }
theorem zqt (a0 : Int) (R : D → Prop) : FD zVl Tryz.f92 [dI a0] R =
 (Call1 Tryz.prog zhb [dI a0, dI (-1000), dI 1000] .bool fun m1 =>
 R (dB (!m1))) := by kernel_rfl
theorem zrt (a0 : Int) : SatI zVl Tryz.f92 zzb [dI a0] := satD Tryz.func92 (by kernel_rfl) Tryz.ntmps92 rfl
def zWl : Ann := { own := [3], live := [], n := 66, nils := [], pubs := [] }
theorem zst (a0 : ConD) (R : D → Prop) : FD zWl Tryz.f93 [dC a0] R =
 (Call1 Tryz.prog zIf [dC a0] (.pr .int (.pr .int (.pr .int (.pr .int .int)))) fun m1 =>
 Call1 Tryz.prog zhb [dI (a0.vars.length : Int), dI m1.1, dI m1.2.1] .bool fun m2 =>
 sel (!m2)
 (R (dB false))
 (Call1 Tryz.prog zYc [dI (a0.consts.length : Int), dI m1.2.2.1] .bool fun m3 =>
 sel (!m3)
 (R (dB false))
 (Call1 Tryz.prog zYc [dI (a0.rows.length : Int), dI m1.2.2.2.1] .bool fun m4 =>
 sel (!m4)
 (R (dB false))
 (Call1 Tryz.prog zYc [dI (a0.lits.length : Int), dI m1.2.2.2.2] .bool fun m5 =>
 sel (!m5)
 (R (dB false))
 (sel (decide (a0.kind = 5))
 (sel (decide ((a0.consts.length : Int) = 0))
 (R (dB false))
 (sel (decide (3 < a0.kind))
 (sel (!decide (a0.n = 0))
 (R (dB false))
 (Call1 Tryz.prog znb [dS a0.rows, .clo z1b none [.iptr [dI a0.kind, .sl .int a0.vars, .sl .int a0.consts, dI a0.n, dS a0.rows, .sl .lit a0.lits] 0]] .bool fun s6 =>
 R (dB (!s6))))
 (Call1 Tryz.prog znb [dS a0.rows, .clo z1b none [.iptr [dI a0.kind, .sl .int a0.vars, .sl .int a0.consts, dI a0.n, dS a0.rows, .sl .lit a0.lits] 0]] .bool fun s7 =>
 R (dB (!s7)))))
 (sel (decide (3 < a0.kind))
 (sel (!decide (a0.n = 0))
 (R (dB false))
 (Call1 Tryz.prog znb [dS a0.rows, .clo z1b none [.iptr [dI a0.kind, .sl .int a0.vars, .sl .int a0.consts, dI a0.n, dS a0.rows, .sl .lit a0.lits] 0]] .bool fun s8 =>
 R (dB (!s8))))
 (Call1 Tryz.prog znb [dS a0.rows, .clo z1b none [.iptr [dI a0.kind, .sl .int a0.vars, .sl .int a0.consts, dI a0.n, dS a0.rows, .sl .lit a0.lits] 0]] .bool fun s9 =>
 R (dB (!s9))))))))) := by kernel_rfl
theorem ztt (a0 : ConD) : SatI zWl Tryz.f93 zxf [dC a0] := satD Tryz.func93 (by kernel_rfl) Tryz.ntmps93 rfl
def zXl : Ann := { own := [], live := [], n := 8, nils := [], pubs := [] }
theorem zut (a0 : LitD) (h0 : FuncId) (hap0 : List D) (R : D → Prop) : FD zXl Tryz.f95 [dL a0, .iptr [.clo h0 (some [.bool]) hap0] 0] R =
 (Ent Tryz.prog h0 ∧
 Call1 Tryz.prog h0 ([dI a0.var] ++ hap0) .bool fun r1 =>
 R (dB r1)) := by kernel_rfl
theorem zvt (a0 : LitD) (h0 : FuncId) (hap0 : List D) : SatI zXl Tryz.f95 zyf [dL a0, .iptr [.clo h0 (some [.bool]) hap0] 0] := satD Tryz.func95 (by kernel_rfl) Tryz.ntmps95 rfl
def zYl : Ann := { own := [], live := [], n := 7, nils := [], pubs := [] }
theorem zwt (a0 : List Int) (h0 : FuncId) (hap0 : List D) (R : D → Prop) : FD zYl Tryz.f97 [.sl .int a0, .iptr [.clo h0 (some [.bool]) hap0] 0] R =
 (Call1 Tryz.prog zqc [.sl .int a0, .clo h0 (some [.bool]) hap0] .bool fun s1 =>
 R (dB s1)) := by kernel_rfl
theorem zxt (a0 : List Int) (h0 : FuncId) (hap0 : List D) : SatI zYl Tryz.f97 zzf [.sl .int a0, .iptr [.clo h0 (some [.bool]) hap0] 0] := satD Tryz.func97 (by kernel_rfl) Tryz.ntmps97 rfl
def zZl : Ann := { own := [], live := [], n := 13, nils := [], pubs := [] }
theorem zyt (a0 : Int) (c0 : List Int) (c1 : ConD) (R : D → Prop) : FD zZl Tryz.f112 [dI a0, .iptr [.sl .int c0] 0, .iptr [dI c1.kind, .sl .int c1.vars, .sl .int c1.consts, dI c1.n, dS c1.rows, .sl .lit c1.lits] 0] R =
 (inb a0 c1.vars.length = true ∧
 inb (at' .int c1.vars a0.toNat) c0.length = true ∧
 R (dI (at' .int c0 ((at' .int c1.vars a0.toNat).toNat)))) := by kernel_rfl
theorem zzt (a0 : Int) (c0 : List Int) (c1 : ConD) : SatI zZl Tryz.f112 zf [dI a0, .iptr [.sl .int c0] 0, .iptr [dI c1.kind, .sl .int c1.vars, .sl .int c1.consts, dI c1.n, dS c1.rows, .sl .lit c1.lits] 0] := satD Tryz.func112 (by kernel_rfl) Tryz.ntmps112 rfl
def z0l : Ann := { own := [], live := [], n := 11, nils := [], pubs := [] }
theorem zAt (a0 : LitD) (c0 : List Int) (R : D → Prop) : FD z0l Tryz.f113 [dL a0, .iptr [.sl .int c0] 0] R =
 (inb a0.var c0.length = true ∧
 Call1 Tryz.prog zZb [dL a0, dI (at' .int c0 a0.var.toNat)] .bool fun m1 =>
 R (dB m1)) := by kernel_rfl
theorem zBt (a0 : LitD) (c0 : List Int) : SatI z0l Tryz.f113 zAb [dL a0, .iptr [.sl .int c0] 0] := satD Tryz.func113 (by kernel_rfl) Tryz.ntmps113 rfl
def z1l : Ann := { own := [], live := [], n := 29, nils := [], pubs := [] }
theorem zCt (a0 : LitD) (a1 : Int) (R : D → Prop) : FD z1l Tryz.f114 [dL a0, dI a1] R =
 (sel (decide (a0.op = 1))
 (R (dB (decide (a1 ≤ a0.n))))
 (sel (decide (a0.op = 2))
 (R (dB (decide (a0.n ≤ a1))))
 (sel (decide (a0.op = 3))
 (R (dB (decide (a1 = a0.n))))
 (R (dB (!decide (a1 = a0.n))))))) := by kernel_rfl
theorem zDt (a0 : LitD) (a1 : Int) : SatI z1l Tryz.f114 zZb [dL a0, dI a1] := satD Tryz.func114 (by kernel_rfl) Tryz.ntmps114 rfl
def z2l : Ann := { own := [], live := [], n := 23, nils := [], pubs := [] }
theorem zEt (a0 : ConD) (a1 : Int) (R : D → Prop) : FD z2l Tryz.f115 [dC a0, dI a1] R =
 (sel (decide (a0.kind = 1))
 (R (dB (decide (a1 ≤ a0.n))))
 (sel (decide (a0.kind = 2))
 (R (dB (decide (a1 = a0.n))))
 (R (dB (!decide (a1 = a0.n)))))) := by kernel_rfl
theorem zFt (a0 : ConD) (a1 : Int) : SatI z2l Tryz.f115 z0b [dC a0, dI a1] := satD Tryz.func115 (by kernel_rfl) Tryz.ntmps115 rfl
def z3l : Ann := { own := [], live := [], n := 7, nils := [], pubs := [] }
theorem zGt (a0 : List Int) (c0 : List Int) (R : D → Prop) : FD z3l Tryz.f116 [.sl .int a0, .iptr [.sl .int c0] 0] R =
 (Call1 Tryz.prog zib [.sl .int a0, .sl .int c0] .bool fun s1 =>
 R (dB s1)) := by kernel_rfl
theorem zHt (a0 : List Int) (c0 : List Int) : SatI z3l Tryz.f116 zEf [.sl .int a0, .iptr [.sl .int c0] 0] := satD Tryz.func116 (by kernel_rfl) Tryz.ntmps116 rfl
def z4l : Ann := { own := [2], live := [], n := 32, nils := [], pubs := [] }
theorem zIt (a0 : ConD) (R : D → Prop) : FD z4l Tryz.f131 [dC a0] R =
 (sel (decide (a0.kind = 1))
 (R (.agg [dI 1, dI 4, dI (a0.vars.length : Int), dI 0, dI 0]))
 (sel (decide (a0.kind = 2))
 (R (.agg [dI 1, dI 4, dI (a0.vars.length : Int), dI 0, dI 0]))
 (sel (decide (a0.kind = 3))
 (R (.agg [dI 1, dI 4, dI (a0.vars.length : Int), dI 0, dI 0]))
 (sel (decide (a0.kind = 4))
 (R (.agg [dI 1, dI 4, dI 0, dI 0, dI 0]))
 (sel (decide (a0.kind = 5))
 (R (.agg [dI 2, dI 2, dI (-1), dI 0, dI 0]))
 (sel (decide (a0.kind = 6))
 (R (.agg [dI 1, dI 4, dI 0, dI (-1), dI 0]))
 (sel (decide (a0.kind = 7))
 (R (.agg [dI 3, dI 3, dI 0, dI 0, dI 0]))
 (sel (decide (a0.kind = 8))
 (R (.agg [dI 2, dI 4, dI 0, dI 0, dI 0]))
 (sel (decide (a0.kind = 9))
 (R (.agg [dI 0, dI 0, dI 0, dI 0, dI (-1)]))
 (R (.agg [dI 1, dI 1, dI 0, dI 0, dI 1]))))))))))) := by kernel_rfl
theorem zJt (a0 : ConD) : SatI z4l Tryz.f131 zIf [dC a0] := satD Tryz.func131 (by kernel_rfl) Tryz.ntmps131 rfl
def z5l : Ann := { own := [], live := [], n := 12, nils := [], pubs := [] }
theorem zKt (a0 : Int) (a1 : Int) (R : D → Prop) : FD z5l Tryz.f132 [dI a0, dI a1] R =
 (sel (decide (a1 = (-1)))
 (R (dB true))
 (R (dB (decide (a0 = a1))))) := by kernel_rfl
theorem zLt (a0 : Int) (a1 : Int) : SatI z5l Tryz.f132 zYc [dI a0, dI a1] := satD Tryz.func132 (by kernel_rfl) Tryz.ntmps132 rfl
def z6l : Ann := { own := [], live := [], n := 10, nils := [], pubs := [] }
theorem zMt (a0 : List Int) (c0 : ConD) (R : D → Prop) : FD z6l Tryz.f133 [.sl .int a0, .iptr [dI c0.kind, .sl .int c0.vars, .sl .int c0.consts, dI c0.n, dS c0.rows, .sl .lit c0.lits] 0] R =
 (R (dB (!decide ((a0.length : Int) = (c0.vars.length : Int))))) := by kernel_rfl
theorem zNt (a0 : List Int) (c0 : ConD) : SatI z6l Tryz.f133 z1b [.sl .int a0, .iptr [dI c0.kind, .sl .int c0.vars, .sl .int c0.consts, dI c0.n, dS c0.rows, .sl .lit c0.lits] 0] := satD Tryz.func133 (by kernel_rfl) Tryz.ntmps133 rfl
end Go.Proofs.YtajnbkhgnppckaaGreatDoor
