/- What the functions of a package do, as equations of plain propositions: printed by a program that carries the code out on symbols. -/
import Derived.Test.YtajnbkhgnppckaaGreatDoorWEv
namespace Go.Proofs.YtajnbkhgnppckaaGreatDoor
open Go.RowKit
set_option linter.unusedVariables false
set_option maxRecDepth 100000
def zQj : Ann := { own := [], live := [], n := 21, nils := [], pubs := [] }
theorem zKq (a0 : MdlD) (a1 : List Int) (R : D → Prop) : FD zQj Tryz.f30 [dM a0, .sl .int a1] R =
 (Call1 Tryz.prog zdb [dM a0] .int fun m1 =>
 sel (!decide (m1 = 0))
 (R (.tup [dB false, dI m1]))
 (sel (!decide ((a1.length : Int) = (a0.vars.length : Int)))
 (R (.tup [dB false, dI 1]))
 (Call1 Tryz.prog zee [dM a0, .sl .int a1] .bool fun m2 =>
 R (.tup [dB m2, dI 0])))) := by kernel_rfl
theorem zLq (a0 : MdlD) (a1 : List Int) : SatI zQj Tryz.f30 zec [dM a0, .sl .int a1] := satD Tryz.func30 (by kernel_rfl) Tryz.ntmps30 rfl
def ztf : Ann := { own := [5], live := [(1, ([1, 30, 31, 32], []))], n := 75, nils := [], pubs := [] }
def zuf (a0 : MdlD) (R : D → Prop) (n1 : Nat) (v2 : Int) : Prop := LP ztf Tryz.f36 [1, 1, 1, 0, 1, 0, 0] 1 n1 ⟨[(1, .iptr [.sl .var a0.vars, .sl .con a0.cons, dI a0.goal, dI a0.var] 0), (30, .sl .con a0.cons), (31, dI (a0.cons.length : Int)), (32, dI v2)], []⟩ (blockK 1 (sK ztf Tryz.f36 [1, 1, 1, 1] 0 (eK Tryz.f36 R)))
theorem zRj (a0 : MdlD) (R : D → Prop) (n1 : Nat) (v2 : Int) : zuf a0 R (n1 + 1) v2 =
 (sel (decide (v2 < (a0.cons.length : Int)))
 (inb v2 a0.cons.length = true ∧
 Call1 Tryz.prog zke [dM a0, dC (at' .con a0.cons v2.toNat)] .int fun m3 =>
 sel (!decide (m3 = 0))
 (R (dI m3))
 (zuf a0 R n1 (w64 (v2 + 1))))
 (sel (decide (a0.goal < 0))
 (R (dI 7))
 (sel (decide (2 < a0.goal))
 (R (dI 7))
 (sel (decide (a0.goal = 0))
 (sel (!decide (a0.var = 0))
 (R (dI 1))
 (sel (!decide (a0.goal = 0))
 (Call1 Tryz.prog zF [dI a0.var, dI 0, dI (w64 ((a0.vars.length : Int) - 1))] .bool fun m4 =>
 sel (!m4)
 (R (dI 5))
 (R (dI 0)))
 (R (dI 0))))
 (sel (!decide (a0.goal = 0))
 (Call1 Tryz.prog zF [dI a0.var, dI 0, dI (w64 ((a0.vars.length : Int) - 1))] .bool fun m5 =>
 sel (!m5)
 (R (dI 5))
 (R (dI 0)))
 (R (dI 0))))))) := by kernel_rfl
theorem zMq (a0 : MdlD) (R : D → Prop) : FD ztf Tryz.f36 [dM a0] R =
 (sel (decide ((a0.vars.length : Int) = 0))
 (R (dI 1))
 (sel (decide (6 < (a0.vars.length : Int)))
 (R (dI 2))
 (sel (decide (8 < (a0.cons.length : Int)))
 (R (dI 2))
 (Call1 Tryz.prog zje [.sl .var a0.vars] .int fun m1 =>
 sel (!decide (m1 = 0))
 (R (dI m1))
 (∃ n1, zuf a0 R n1 0))))) := by kernel_rfl
theorem zNq (a0 : MdlD) : SatI ztf Tryz.f36 zdb [dM a0] := satD Tryz.func36 (by kernel_rfl) Tryz.ntmps36 rfl
def zSj : Ann := { own := [], live := [], n := 26, nils := [], pubs := [] }
theorem zOq (a0 : MdlD) (a1 : Int) (a2 : List Int) (R : D → Prop) : FD zSj Tryz.f48 [dM a0, dI a1, .sl .int a2] R =
 (Call1 Tryz.prog zWc [dM a0, dI a1, dI (a2.length : Int)] .int fun m1 =>
 sel (!decide (m1 = 0))
 (R (.tup [dB false, dI m1]))
 (Call1 Tryz.prog ztb [.sl .int a2, .clo zme none []] .bool fun s2 =>
 sel s2
 (R (.tup [dB false, dI 3]))
 (inb a1 a0.cons.length = true ∧
 Call1 Tryz.prog zSb [dC (at' .con a0.cons a1.toNat), .sl .int a2] .bool fun m3 =>
 R (.tup [dB m3, dI 0])))) := by kernel_rfl
theorem zPq (a0 : MdlD) (a1 : Int) (a2 : List Int) : SatI zSj Tryz.f48 zTc [dM a0, dI a1, .sl .int a2] := satD Tryz.func48 (by kernel_rfl) Tryz.ntmps48 rfl
def zTj : Ann := { own := [], live := [], n := 22, nils := [], pubs := [] }
theorem zQq (a0 : MdlD) (a1 : Int) (R : D → Prop) : FD zTj Tryz.f49 [dM a0, dI a1] R =
 (Call1 Tryz.prog zWc [dM a0, dI a1, dI (a0.vars.length : Int)] .int fun m1 =>
 sel (!decide (m1 = 0))
 (R (.tup [.sl .int ([] : List Int), dI m1]))
 (inb a1 a0.cons.length = true ∧
 Call1 Tryz.prog zub [dC (at' .con a0.cons a1.toNat)] (.list .int) fun m2 =>
 R (.tup [.sl .int m2, dI 0]))) := by kernel_rfl
theorem zRq (a0 : MdlD) (a1 : Int) : SatI zTj Tryz.f49 zUc [dM a0, dI a1] := satD Tryz.func49 (by kernel_rfl) Tryz.ntmps49 rfl
def zvf : Ann := { own := [6], live := [(0, ([2, 3, 8, 9, 10], []))], n := 31, nils := [], pubs := [] }
def zwf (a0 : MdlD) (a1 : List Int) (R : D → Prop) (n0 : Nat) (v1 : Int) : Prop := LP zvf Tryz.f50 [1, 0, 1, 0, 0] 0 n0 ⟨[(2, .iptr [.sl .var a0.vars, .sl .con a0.cons, dI a0.goal, dI a0.var] 0), (3, .iptr [.sl .int a1] 0), (8, .sl .var a0.vars), (9, dI (a0.vars.length : Int)), (10, dI v1)], []⟩ (blockK 0 (sK zvf Tryz.f50 [1, 1] 0 (eK Tryz.f50 R)))
theorem zUj (a0 : MdlD) (a1 : List Int) (R : D → Prop) (n0 : Nat) (v1 : Int) : zwf a0 a1 R (n0 + 1) v1 =
 (sel (decide (v1 < (a0.vars.length : Int)))
 (inb v1 a0.vars.length = true ∧
 inb v1 a1.length = true ∧
 Call1 Tryz.prog zF [dI (at' .int a1 v1.toNat), dI ((at' .var a0.vars v1.toNat).lo), dI ((at' .var a0.vars v1.toNat).hi)] .bool fun m2 =>
 sel (!m2)
 (R (dB false))
 (zwf a0 a1 R n0 (w64 (v1 + 1))))
 (Call1 Tryz.prog zne [.sl .con a0.cons, .clo zoe none [.iptr [.sl .int a1] 0]] .bool fun s3 =>
 R (dB (!s3)))) := by kernel_rfl
theorem zSq (a0 : MdlD) (a1 : List Int) (R : D → Prop) : FD zvf Tryz.f50 [dM a0, .sl .int a1] R =
 (∃ n0, zwf a0 a1 R n0 0) := by kernel_rfl
theorem zTq (a0 : MdlD) (a1 : List Int) : SatI zvf Tryz.f50 zee [dM a0, .sl .int a1] := satD Tryz.func50 (by kernel_rfl) Tryz.ntmps50 rfl
def zxf : Ann := { own := [4], live := [(0, ([0, 5, 6, 7], []))], n := 49, nils := [], pubs := [] }
def zyf (a0 : List VarD) (R : D → Prop) (n0 : Nat) (v1 : Int) : Prop := LP zxf Tryz.f57 [1, 0, 1, 0, 0] 0 n0 ⟨[(0, .sl .var a0), (5, .sl .var a0), (6, dI (a0.length : Int)), (7, dI v1)], []⟩ (blockK 0 (sK zxf Tryz.f57 [1, 1] 0 (eK Tryz.f57 R)))
theorem zVj (a0 : List VarD) (R : D → Prop) (n0 : Nat) (v1 : Int) : zyf a0 R (n0 + 1) v1 =
 (sel (decide (v1 < (a0.length : Int)))
 (inb v1 a0.length = true ∧
 Call1 Tryz.prog zgh [.str ((at' .var a0 v1.toNat).name)] .bool fun m2 =>
 sel (!m2)
 (R (dI 1))
 (inSl 0 v1 a0.length = true ∧
 Call1 Tryz.prog zve [.sl .var ((a0.take v1.toNat).drop 0), .clo zwe none [.iptr [.str ((at' .var a0 v1.toNat).name), dI ((at' .var a0 v1.toNat).lo), dI ((at' .var a0 v1.toNat).hi)] 0]] .bool fun s3 =>
 sel s3
 (R (dI 6))
 (Call1 Tryz.prog zF [dI ((at' .var a0 v1.toNat).lo), dI (-50), dI 50] .bool fun m4 =>
 sel (!m4)
 (R (dI 3))
 (Call1 Tryz.prog zF [dI ((at' .var a0 v1.toNat).hi), dI (-50), dI 50] .bool fun m5 =>
 sel (!m5)
 (R (dI 3))
 (sel (decide (((at' .var a0 v1.toNat).hi) < ((at' .var a0 v1.toNat).lo)))
 (R (dI 3))
 (sel (decide (6 ≤ (w64 (((at' .var a0 v1.toNat).hi) - ((at' .var a0 v1.toNat).lo)))))
 (R (dI 2))
 (zyf a0 R n0 (w64 (v1 + 1)))))))))
 (R (dI 0))) := by kernel_rfl
theorem zUq (a0 : List VarD) (R : D → Prop) : FD zxf Tryz.f57 [.sl .var a0] R =
 (∃ n0, zyf a0 R n0 0) := by kernel_rfl
theorem zVq (a0 : List VarD) : SatI zxf Tryz.f57 zje [.sl .var a0] := satD Tryz.func57 (by kernel_rfl) Tryz.ntmps57 rfl
def zzf : Ann := { own := [5, 6, 8], live := [(1, ([6, 75, 76, 77], []))], n := 94, nils := [], pubs := [] }
def zAf (a1 : ConD) (R : D → Prop) (n1 : Nat) (v7 : Int) : Prop := LP zzf Tryz.f58 [1, 1, 1, 1, 0, 1, 0, 0] 1 n1 ⟨[(6, .iptr [.clo zfb none []] 0), (75, .sl .lit a1.lits), (76, dI (a1.lits.length : Int)), (77, dI v7)], []⟩ (blockK 1 (sK zzf Tryz.f58 [1, 1, 1, 1, 1] 0 (eK Tryz.f58 R)))
theorem zWj (a1 : ConD) (R : D → Prop) (n1 : Nat) (v7 : Int) : zAf a1 R (n1 + 1) v7 =
 (sel (decide (v7 < (a1.lits.length : Int)))
 (inb v7 a1.lits.length = true ∧
 sel (decide (((at' .lit a1.lits v7.toNat).op) < 1))
 (R (dI 7))
 (sel (decide (4 < ((at' .lit a1.lits v7.toNat).op)))
 (R (dI 7))
 (Call1 Tryz.prog zfb [dI ((at' .lit a1.lits v7.toNat).n)] .bool fun m8 =>
 sel m8
 (R (dI 3))
 (zAf a1 R n1 (w64 (v7 + 1))))))
 (R (dI 0))) := by kernel_rfl
theorem zWq (a0 : MdlD) (a1 : ConD) (R : D → Prop) : FD zzf Tryz.f58 [dM a0, dC a1] R =
 (sel (decide (a1.kind < 1))
 (R (dI 7))
 (sel (decide (10 < a1.kind))
 (R (dI 7))
 (sel (decide (4 < (a1.vars.length : Int)))
 (R (dI 2))
 (sel (decide (4 < (a1.lits.length : Int)))
 (R (dI 2))
 (sel (decide (8 < (a1.consts.length : Int)))
 (R (dI 2))
 (sel (decide (20 < (a1.rows.length : Int)))
 (R (dI 2))
 (Call1 Tryz.prog zxe [dC a1] .bool fun m1 =>
 sel (!m1)
 (R (dI 1))
 (Call1 Tryz.prog ztb [.sl .int a1.vars, .clo zZc none [.iptr [.sl .var a0.vars, .sl .con a0.cons, dI a0.goal, dI a0.var] 0]] .bool fun s2 =>
 sel s2
 (R (dI 5))
 (Call1 Tryz.prog zic [.sl .lit a1.lits, .clo zye none [.iptr [.clo zZc none [.iptr [.sl .var a0.vars, .sl .con a0.cons, dI a0.goal, dI a0.var] 0]] 0]] .bool fun s3 =>
 sel s3
 (R (dI 5))
 (Call1 Tryz.prog ztb [.sl .int a1.consts, .clo zfb none []] .bool fun s4 =>
 sel s4
 (R (dI 3))
 (Call1 Tryz.prog zfb [dI a1.n] .bool fun m5 =>
 sel m5
 (R (dI 3))
 (Call1 Tryz.prog zW [dS a1.rows, .clo zze none [.iptr [.clo zfb none []] 0]] .bool fun s6 =>
 sel s6
 (R (dI 3))
 (∃ n1, zAf a1 R n1 0))))))))))))) := by kernel_rfl
theorem zXq (a0 : MdlD) (a1 : ConD) : SatI zzf Tryz.f58 zke [dM a0, dC a1] := satD Tryz.func58 (by kernel_rfl) Tryz.ntmps58 rfl
def zXj : Ann := { own := [], live := [], n := 15, nils := [], pubs := [] }
theorem zYq (a0 : Int) (a1 : Int) (a2 : Int) (R : D → Prop) : FD zXj Tryz.f59 [dI a0, dI a1, dI a2] R =
 (sel (decide (a1 ≤ a0))
 (R (dB (decide (a0 ≤ a2))))
 (R (dB false))) := by kernel_rfl
theorem zZq (a0 : Int) (a1 : Int) (a2 : Int) : SatI zXj Tryz.f59 zF [dI a0, dI a1, dI a2] := satD Tryz.func59 (by kernel_rfl) Tryz.ntmps59 rfl
def zYj : Ann := { own := [], live := [], n := 27, nils := [], pubs := [] }
theorem z0q (a0 : MdlD) (a1 : Int) (a2 : Int) (R : D → Prop) : FD zYj Tryz.f73 [dM a0, dI a1, dI a2] R =
 (Call1 Tryz.prog zdb [dM a0] .int fun m1 =>
 sel (!decide (m1 = 0))
 (R (dI m1))
 (sel (decide (a1 < 0))
 (R (dI 5))
 (sel (decide ((a0.cons.length : Int) ≤ a1))
 (R (dI 5))
 (sel (!decide (a2 = (a0.vars.length : Int)))
 (R (dI 1))
 (R (dI 0)))))) := by kernel_rfl
theorem z1q (a0 : MdlD) (a1 : Int) (a2 : Int) : SatI zYj Tryz.f73 zWc [dM a0, dI a1, dI a2] := satD Tryz.func73 (by kernel_rfl) Tryz.ntmps73 rfl
def zZj : Ann := { own := [], live := [], n := 6, nils := [], pubs := [] }
theorem z2q (a0 : Int) (R : D → Prop) : FD zZj Tryz.f75 [dI a0] R =
 (Call1 Tryz.prog zF [dI a0, dI (-50), dI 50] .bool fun m1 =>
 R (dB (!m1))) := by kernel_rfl
theorem z3q (a0 : Int) : SatI zZj Tryz.f75 zme [dI a0] := satD Tryz.func75 (by kernel_rfl) Tryz.ntmps75 rfl
def zj : Ann := { own := [12, 45, 97], live := [(1, ([2, 5, 7, 25, 26, 27], [])), (3, ([2, 5, 10, 48, 49], [45])), (5, ([2, 5, 12, 88, 89], [12, 1012000])), (7, ([5, 14, 120, 121], []))], n := 166, nils := [(12, (0, (3, .int)))], pubs := [] }
def zBf (a0 : ConD) (a1 : List Int) (R : D → Prop) (n1 : Nat) (v1 : Int) (v2 : Int) : Prop := LP zj Tryz.f76 [1, 1, 1, 0, 1, 0, 1, 0, 1, 0, 1, 0, 0] 1 n1 ⟨[(2, .iptr [dI a0.kind, .sl .int a0.vars, .sl .int a0.consts, dI a0.n, dS a0.rows, .sl .lit a0.lits] 0), (5, .clo ze none [.iptr [.sl .int a1] 0, .iptr [dI a0.kind, .sl .int a0.vars, .sl .int a0.consts, dI a0.n, dS a0.rows, .sl .lit a0.lits] 0]), (7, dI v1), (25, .sl .int a0.consts), (26, dI (a0.consts.length : Int)), (27, dI v2)], []⟩ (blockK 1 (sK zj Tryz.f76 [1, 1, 1, 0, 1, 0, 1, 0, 1, 1] 0 (blockK 0 (sK zj Tryz.f76 [1, 1, 1, 1] 0 (eK Tryz.f76 R)))))
def zCf (a0 : ConD) (a1 : List Int) (R : D → Prop) (n1_2 : Nat) (v5 : Int) (v6 : Int) : Prop := LP zj Tryz.f76 [1, 1, 1, 0, 1, 0, 1, 0, 1, 0, 1, 0, 0] 1 n1_2 ⟨[(2, .iptr [dI a0.kind, .sl .int a0.vars, .sl .int a0.consts, dI a0.n, dS a0.rows, .sl .lit a0.lits] 0), (5, .clo ze none [.iptr [.sl .int a1] 0, .iptr [dI a0.kind, .sl .int a0.vars, .sl .int a0.consts, dI a0.n, dS a0.rows, .sl .lit a0.lits] 0]), (7, dI v5), (25, .sl .int a0.consts), (26, dI (a0.consts.length : Int)), (27, dI v6)], []⟩ (blockK 1 (sK zj Tryz.f76 [1, 1, 1, 0, 1, 0, 1, 0, 1, 1] 0 (blockK 0 (sK zj Tryz.f76 [1, 1, 1, 1] 0 (eK Tryz.f76 R)))))
def zDf (a0 : ConD) (a1 : List Int) (R : D → Prop) (n1_3 : Nat) (v9 : Int) (v10 : Int) : Prop := LP zj Tryz.f76 [1, 1, 1, 0, 1, 0, 1, 0, 1, 0, 1, 0, 0] 1 n1_3 ⟨[(2, .iptr [dI a0.kind, .sl .int a0.vars, .sl .int a0.consts, dI a0.n, dS a0.rows, .sl .lit a0.lits] 0), (5, .clo ze none [.iptr [.sl .int a1] 0, .iptr [dI a0.kind, .sl .int a0.vars, .sl .int a0.consts, dI a0.n, dS a0.rows, .sl .lit a0.lits] 0]), (7, dI v9), (25, .sl .int a0.consts), (26, dI (a0.consts.length : Int)), (27, dI v10)], []⟩ (blockK 1 (sK zj Tryz.f76 [1, 1, 1, 0, 1, 0, 1, 0, 1, 1] 0 (blockK 0 (sK zj Tryz.f76 [1, 1, 1, 1] 0 (eK Tryz.f76 R)))))
def zEf (a0 : ConD) (a1 : List Int) (R : D → Prop) (n3 : Nat) (v13 : Int) (m14 : List (Int × Int)) : Prop := LP zj Tryz.f76 [1, 1, 1, 0, 1, 0, 1, 1, 1, 0, 1, 0, 1, 0, 0] 3 n3 ⟨[(2, .iptr [dI a0.kind, .sl .int a0.vars, .sl .int a0.consts, dI a0.n, dS a0.rows, .sl .lit a0.lits] 0), (5, .clo ze none [.iptr [.sl .int a1] 0, .iptr [dI a0.kind, .sl .int a0.vars, .sl .int a0.consts, dI a0.n, dS a0.rows, .sl .lit a0.lits] 0]), (10, .own 45), (48, dI (a0.vars.length : Int)), (49, dI v13)], [(45, .mp .int .int m14)]⟩ (blockK 3 (sK zj Tryz.f76 [1, 1, 1, 0, 1, 0, 1, 1, 1, 0, 1, 1] 0 (blockK 0 (sK zj Tryz.f76 [1, 1, 1, 1] 0 (eK Tryz.f76 R)))))
def zFf (a0 : ConD) (a1 : List Int) (R : D → Prop) (n5 : Nat) (v20 : Int) (l21 : List Int) : Prop := LP zj Tryz.f76 [1, 1, 1, 0, 1, 0, 1, 1, 1, 1, 1, 1, 1, 0, 1, 0, 1, 0, 0] 5 n5 ⟨[(2, .iptr [dI a0.kind, .sl .int a0.vars, .sl .int a0.consts, dI a0.n, dS a0.rows, .sl .lit a0.lits] 0), (5, .clo ze none [.iptr [.sl .int a1] 0, .iptr [dI a0.kind, .sl .int a0.vars, .sl .int a0.consts, dI a0.n, dS a0.rows, .sl .lit a0.lits] 0]), (12, .ptr 12 0), (88, dI (a0.vars.length : Int)), (89, dI v20)], [(12, .cells [.own 1012000]), (1012000, .row 3 .int l21)]⟩ (blockK 5 (sK zj Tryz.f76 [1, 1, 1, 0, 1, 0, 1, 1, 1, 1, 1, 1, 1, 0, 1, 1] 0 (blockK 0 (sK zj Tryz.f76 [1, 1, 1, 1] 0 (eK Tryz.f76 R)))))
def zGf (a0 : ConD) (a1 : List Int) (R : D → Prop) (n7 : Nat) (v28 : Int) (v29 : Int) : Prop := LP zj Tryz.f76 [1, 1, 1, 0, 1, 0, 1, 1, 1, 1, 1, 1, 1, 1, 1, 1, 1, 0, 1, 0, 1, 0, 0] 7 n7 ⟨[(5, .clo ze none [.iptr [.sl .int a1] 0, .iptr [dI a0.kind, .sl .int a0.vars, .sl .int a0.consts, dI a0.n, dS a0.rows, .sl .lit a0.lits] 0]), (14, dI v28), (120, dI (((a0.vars.take (a0.vars.length : Int).toNat).drop 1).length : Int)), (121, dI v29)], []⟩ (blockK 7 (sK zj Tryz.f76 [1, 1, 1, 0, 1, 0, 1, 1, 1, 1, 1, 1, 1, 1, 1, 1, 1, 0, 1, 1] 0 (blockK 0 (sK zj Tryz.f76 [1, 1, 1, 1] 0 (eK Tryz.f76 R)))))
theorem z4q (a0 : ConD) (a1 : List Int) (R : D → Prop) (n1 : Nat) (v1 : Int) (v2 : Int) : zBf a0 a1 R (n1 + 1) v1 v2 =
 (sel (decide (v2 < (a0.consts.length : Int)))
 (inb v2 a0.consts.length = true ∧
 Call1 Tryz.prog ze [dI v2, .iptr [.sl .int a1] 0, .iptr [dI a0.kind, .sl .int a0.vars, .sl .int a0.consts, dI a0.n, dS a0.rows, .sl .lit a0.lits] 0] .int fun m3 =>
 zBf a0 a1 R n1 (w64 (v1 + (w64 ((at' .int a0.consts v2.toNat) * m3)))) (w64 (v2 + 1)))
 (Call1 Tryz.prog zyb [dC a0, dI v1] .bool fun m4 =>
 R (dB m4))) := by kernel_rfl
theorem z5q (a0 : ConD) (a1 : List Int) (R : D → Prop) (n1_2 : Nat) (v5 : Int) (v6 : Int) : zCf a0 a1 R (n1_2 + 1) v5 v6 =
 (sel (decide (v6 < (a0.consts.length : Int)))
 (inb v6 a0.consts.length = true ∧
 Call1 Tryz.prog ze [dI v6, .iptr [.sl .int a1] 0, .iptr [dI a0.kind, .sl .int a0.vars, .sl .int a0.consts, dI a0.n, dS a0.rows, .sl .lit a0.lits] 0] .int fun m7 =>
 zCf a0 a1 R n1_2 (w64 (v5 + (w64 ((at' .int a0.consts v6.toNat) * m7)))) (w64 (v6 + 1)))
 (Call1 Tryz.prog zyb [dC a0, dI v5] .bool fun m8 =>
 R (dB m8))) := by kernel_rfl
theorem z6q (a0 : ConD) (a1 : List Int) (R : D → Prop) (n1_3 : Nat) (v9 : Int) (v10 : Int) : zDf a0 a1 R (n1_3 + 1) v9 v10 =
 (sel (decide (v10 < (a0.consts.length : Int)))
 (inb v10 a0.consts.length = true ∧
 Call1 Tryz.prog ze [dI v10, .iptr [.sl .int a1] 0, .iptr [dI a0.kind, .sl .int a0.vars, .sl .int a0.consts, dI a0.n, dS a0.rows, .sl .lit a0.lits] 0] .int fun m11 =>
 zDf a0 a1 R n1_3 (w64 (v9 + (w64 ((at' .int a0.consts v10.toNat) * m11)))) (w64 (v10 + 1)))
 (Call1 Tryz.prog zyb [dC a0, dI v9] .bool fun m12 =>
 R (dB m12))) := by kernel_rfl
theorem z7q (a0 : ConD) (a1 : List Int) (R : D → Prop) (n3 : Nat) (v13 : Int) (m14 : List (Int × Int)) : zEf a0 a1 R (n3 + 1) v13 m14 =
 (sel (decide (v13 < (a0.vars.length : Int)))
 (Call1 Tryz.prog ze [dI v13, .iptr [.sl .int a1] 0, .iptr [dI a0.kind, .sl .int a0.vars, .sl .int a0.consts, dI a0.n, dS a0.rows, .sl .lit a0.lits] 0] .int fun m15 =>
 roomM (m14.length + 1) = true ∧
 zEf a0 a1 R n3 (w64 (v13 + 1)) (mput .int .int m15 v13 m14))
 (R (dB (decide ((m14.length : Int) = (a0.vars.length : Int)))))) := by kernel_rfl
theorem z8q (a0 : ConD) (a1 : List Int) (R : D → Prop) (n5 : Nat) (v20 : Int) (l21 : List Int) : zFf a0 a1 R (n5 + 1) v20 l21 =
 (sel (decide (v20 < (a0.vars.length : Int)))
 (Call1 Tryz.prog ze [dI v20, .iptr [.sl .int a1] 0, .iptr [dI a0.kind, .sl .int a0.vars, .sl .int a0.consts, dI a0.n, dS a0.rows, .sl .lit a0.lits] 0] .int fun m22 =>
 room .int (l21.length + ([m22]).length) = true ∧
 zFf a0 a1 R n5 (w64 (v20 + 1)) (l21 ++ ([m22])))
 (Call1 Tryz.prog zW [dS a0.rows, .clo zDe none [.iptr [.sl .int l21] 0]] .bool fun s23 =>
 R (dB s23))) := by kernel_rfl
theorem z9q (a0 : ConD) (a1 : List Int) (R : D → Prop) (n7 : Nat) (v28 : Int) (v29 : Int) : zGf a0 a1 R (n7 + 1) v28 v29 =
 (sel (decide (v29 < (((a0.vars.take (a0.vars.length : Int).toNat).drop 1).length : Int)))
 (Call1 Tryz.prog ze [dI (w64 (1 + v29)), .iptr [.sl .int a1] 0, .iptr [dI a0.kind, .sl .int a0.vars, .sl .int a0.consts, dI a0.n, dS a0.rows, .sl .lit a0.lits] 0] .int fun m30 =>
 zGf a0 a1 R n7 (if m30 > v28 then m30 else v28) (w64 (v29 + 1)))
 (Call1 Tryz.prog ze [dI 0, .iptr [.sl .int a1] 0, .iptr [dI a0.kind, .sl .int a0.vars, .sl .int a0.consts, dI a0.n, dS a0.rows, .sl .lit a0.lits] 0] .int fun m31 =>
 R (dB (decide (m31 = v28))))) := by kernel_rfl
theorem zar (a0 : ConD) (a1 : List Int) (R : D → Prop) : FD zj Tryz.f76 [dC a0, .sl .int a1] R =
 (sel (decide (a0.kind = 1))
 (∃ n1, zBf a0 a1 R n1 0 0)
 (sel (decide (a0.kind = 2))
 (∃ n1_2, zCf a0 a1 R n1_2 0 0)
 (sel (decide (a0.kind = 3))
 (∃ n1_3, zDf a0 a1 R n1_3 0 0)
 (sel (decide (a0.kind = 4))
 (∃ n3, zEf a0 a1 R n3 0 ([] : List (Int × Int)))
 (sel (decide (a0.kind = 5))
 (Call1 Tryz.prog ze [dI 0, .iptr [.sl .int a1] 0, .iptr [dI a0.kind, .sl .int a0.vars, .sl .int a0.consts, dI a0.n, dS a0.rows, .sl .lit a0.lits] 0] .int fun m16 =>
 Call1 Tryz.prog zF [dI m16, dI 0, dI (w64 ((a0.consts.length : Int) - 1))] .bool fun m17 =>
 sel m17
 (Call1 Tryz.prog ze [dI 0, .iptr [.sl .int a1] 0, .iptr [dI a0.kind, .sl .int a0.vars, .sl .int a0.consts, dI a0.n, dS a0.rows, .sl .lit a0.lits] 0] .int fun m18 =>
 inb m18 a0.consts.length = true ∧
 Call1 Tryz.prog ze [dI 1, .iptr [.sl .int a1] 0, .iptr [dI a0.kind, .sl .int a0.vars, .sl .int a0.consts, dI a0.n, dS a0.rows, .sl .lit a0.lits] 0] .int fun m19 =>
 R (dB (decide ((at' .int a0.consts m18.toNat) = m19))))
 (R (dB false)))
 (sel (decide (a0.kind = 6))
 (∃ n5, zFf a0 a1 R n5 0 ([] : List Int))
 (sel (decide (a0.kind = 7))
 (Call1 Tryz.prog ze [dI 0, .iptr [.sl .int a1] 0, .iptr [dI a0.kind, .sl .int a0.vars, .sl .int a0.consts, dI a0.n, dS a0.rows, .sl .lit a0.lits] 0] .int fun m24 =>
 Call1 Tryz.prog ze [dI 1, .iptr [.sl .int a1] 0, .iptr [dI a0.kind, .sl .int a0.vars, .sl .int a0.consts, dI a0.n, dS a0.rows, .sl .lit a0.lits] 0] .int fun m25 =>
 Call1 Tryz.prog ze [dI 2, .iptr [.sl .int a1] 0, .iptr [dI a0.kind, .sl .int a0.vars, .sl .int a0.consts, dI a0.n, dS a0.rows, .sl .lit a0.lits] 0] .int fun m26 =>
 R (dB (decide ((w64 (m24 * m25)) = m26))))
 (sel (decide (a0.kind = 8))
 (Call1 Tryz.prog ze [dI 1, .iptr [.sl .int a1] 0, .iptr [dI a0.kind, .sl .int a0.vars, .sl .int a0.consts, dI a0.n, dS a0.rows, .sl .lit a0.lits] 0] .int fun m27 =>
 inSl 1 (a0.vars.length : Int) a0.vars.length = true ∧
 ∃ n7, zGf a0 a1 R n7 m27 0)
 (sel (decide (a0.kind = 9))
 (Call1 Tryz.prog zic [.sl .lit a0.lits, .clo zgb none [.iptr [.sl .int a1] 0]] .bool fun s32 =>
 R (dB s32))
 (inb 0 a0.lits.length = true ∧
 Call1 Tryz.prog zgb [dL (at' .lit a0.lits 0), .iptr [.sl .int a1] 0] .bool fun m33 =>
 sel m33
 (Call1 Tryz.prog ze [dI 0, .iptr [.sl .int a1] 0, .iptr [dI a0.kind, .sl .int a0.vars, .sl .int a0.consts, dI a0.n, dS a0.rows, .sl .lit a0.lits] 0] .int fun m34 =>
 sel (decide (m34 = 1))
 (R (dB true))
 (inb 0 a0.lits.length = true ∧
 Call1 Tryz.prog zgb [dL (at' .lit a0.lits 0), .iptr [.sl .int a1] 0] .bool fun m35 =>
 sel (!m35)
 (Call1 Tryz.prog ze [dI 0, .iptr [.sl .int a1] 0, .iptr [dI a0.kind, .sl .int a0.vars, .sl .int a0.consts, dI a0.n, dS a0.rows, .sl .lit a0.lits] 0] .int fun m36 =>
 R (dB (decide (m36 = 0))))
 (R (dB false))))
 (inb 0 a0.lits.length = true ∧
 Call1 Tryz.prog zgb [dL (at' .lit a0.lits 0), .iptr [.sl .int a1] 0] .bool fun m37 =>
 sel (!m37)
 (Call1 Tryz.prog ze [dI 0, .iptr [.sl .int a1] 0, .iptr [dI a0.kind, .sl .int a0.vars, .sl .int a0.consts, dI a0.n, dS a0.rows, .sl .lit a0.lits] 0] .int fun m38 =>
 R (dB (decide (m38 = 0))))
 (R (dB false))))))))))))) := by kernel_rfl
theorem zbr (a0 : ConD) (a1 : List Int) : SatI zj Tryz.f76 zSb [dC a0, .sl .int a1] := satD Tryz.func76 (by kernel_rfl) Tryz.ntmps76 rfl
def zHf : Ann := { own := [5, 20], live := [(0, ([3, 10, 11, 12], [30512]))], n := 26, nils := [], pubs := [] }
def zIf (a0 : ConD) (R : D → Prop) (n0 : Nat) (v2 : Int) (l3 : List Int) : Prop := LP zHf Tryz.f77 [1, 1, 0, 1, 0, 0] 0 n0 ⟨[(3, .own 30512), (10, .sl .lit a0.lits), (11, dI (a0.lits.length : Int)), (12, dI v2)], [(30512, .row 3 .int l3)]⟩ (blockK 0 (sK zHf Tryz.f77 [1, 1, 1] 0 (eK Tryz.f77 R)))
theorem zcr (a0 : ConD) (R : D → Prop) (n0 : Nat) (v2 : Int) (l3 : List Int) : zIf a0 R (n0 + 1) v2 l3 =
 (sel (decide (v2 < (a0.lits.length : Int)))
 (inb v2 a0.lits.length = true ∧
 room .int (l3.length + ([(at' .lit a0.lits v2.toNat).var]).length) = true ∧
 zIf a0 R n0 (w64 (v2 + 1)) (l3 ++ ([(at' .lit a0.lits v2.toNat).var])))
 (∃ i4 : List Int, SatH Tryz.prog z0c [.own 1000] [(1000, .row 3 .int l3)] (.tup []) [(1000, .row 3 .int i4)] ∧
 ∃ i5 : List Int, SatH Tryz.prog z1c [.own 1000] [(1000, .row 3 .int i4)] (.sl .int i5) [] ∧
 R (.sl .int i5))) := by kernel_rfl
theorem zdr (a0 : ConD) (R : D → Prop) : FD zHf Tryz.f77 [dC a0] R =
 (∃ i1 : List Int, SatH Tryz.prog zjc [.sl .int a0.vars] [] (.own 3000) [(3000, .row 3 .int i1)] ∧
 ∃ n0, zIf a0 R n0 0 i1) := by kernel_rfl
theorem zer (a0 : ConD) : SatI zHf Tryz.f77 zub [dC a0] := satD Tryz.func77 (by kernel_rfl) Tryz.ntmps77 rfl
def z0j : Ann := { own := [], live := [], n := 8, nils := [], pubs := [] }
theorem zfr (a0 : ConD) (c0 : List Int) (R : D → Prop) : FD z0j Tryz.f79 [dC a0, .iptr [.sl .int c0] 0] R =
 (Call1 Tryz.prog zSb [dC a0, .sl .int c0] .bool fun m1 =>
 R (dB (!m1))) := by kernel_rfl
theorem zgr (a0 : ConD) (c0 : List Int) : SatI z0j Tryz.f79 zoe [dC a0, .iptr [.sl .int c0] 0] := satD Tryz.func79 (by kernel_rfl) Tryz.ntmps79 rfl
def z1j : Ann := { own := [], live := [], n := 9, nils := [], pubs := [] }
theorem zhr (a0 : VarD) (c0 : VarD) (R : D → Prop) : FD z1j Tryz.f90 [dV a0, .iptr [.str c0.name, dI c0.lo, dI c0.hi] 0] R =
 (R (dB (decide (a0.name = c0.name)))) := by kernel_rfl
theorem zir (a0 : VarD) (c0 : VarD) : SatI z1j Tryz.f90 zwe [dV a0, .iptr [.str c0.name, dI c0.lo, dI c0.hi] 0] := satD Tryz.func90 (by kernel_rfl) Tryz.ntmps90 rfl
def z2j : Ann := { own := [], live := [], n := 11, nils := [], pubs := [] }
theorem zjr (a0 : Int) (c0 : MdlD) (R : D → Prop) : FD z2j Tryz.f91 [dI a0, .iptr [.sl .var c0.vars, .sl .con c0.cons, dI c0.goal, dI c0.var] 0] R =
 (Call1 Tryz.prog zF [dI a0, dI 0, dI (w64 ((c0.vars.length : Int) - 1))] .bool fun m1 =>
 R (dB (!m1))) := by kernel_rfl
theorem zkr (a0 : Int) (c0 : MdlD) : SatI z2j Tryz.f91 zZc [dI a0, .iptr [.sl .var c0.vars, .sl .con c0.cons, dI c0.goal, dI c0.var] 0] := satD Tryz.func91 (by kernel_rfl) Tryz.ntmps91 rfl
def z3j : Ann := { own := [], live := [], n := 6, nils := [], pubs := [] }
theorem zlr (a0 : Int) (R : D → Prop) : FD z3j Tryz.f92 [dI a0] R =
 (Call1 Tryz.prog zF [dI a0, dI (-1000), dI 1000] .bool fun m1 =>
 R (dB (!m1))) := by kernel_rfl
theorem zmr (a0 : Int) : SatI z3j Tryz.f92 zfb [dI a0] := satD Tryz.func92 (by kernel_rfl) Tryz.ntmps92 rfl
def z4j : Ann := { own := [3], live := [], n := 66, nils := [], pubs := [] }
theorem znr (a0 : ConD) (R : D → Prop) : FD z4j Tryz.f93 [dC a0] R =
 (Call1 Tryz.prog zIe [dC a0] (.pr .int (.pr .int (.pr .int (.pr .int .int)))) fun m1 =>
 Call1 Tryz.prog zF [dI (a0.vars.length : Int), dI m1.1, dI m1.2.1] .bool fun m2 =>
 sel (!m2)
 (R (dB false))
 (Call1 Tryz.prog zkc [dI (a0.consts.length : Int), dI m1.2.2.1] .bool fun m3 =>
 sel (!m3)
 (R (dB false))
 (Call1 Tryz.prog zkc [dI (a0.rows.length : Int), dI m1.2.2.2.1] .bool fun m4 =>
 sel (!m4)
 (R (dB false))
 (Call1 Tryz.prog zkc [dI (a0.lits.length : Int), dI m1.2.2.2.2] .bool fun m5 =>
 sel (!m5)
 (R (dB false))
 (sel (decide (a0.kind = 5))
 (sel (decide ((a0.consts.length : Int) = 0))
 (R (dB false))
 (sel (decide (3 < a0.kind))
 (sel (!decide (a0.n = 0))
 (R (dB false))
 (Call1 Tryz.prog zW [dS a0.rows, .clo zzb none [.iptr [dI a0.kind, .sl .int a0.vars, .sl .int a0.consts, dI a0.n, dS a0.rows, .sl .lit a0.lits] 0]] .bool fun s6 =>
 R (dB (!s6))))
 (Call1 Tryz.prog zW [dS a0.rows, .clo zzb none [.iptr [dI a0.kind, .sl .int a0.vars, .sl .int a0.consts, dI a0.n, dS a0.rows, .sl .lit a0.lits] 0]] .bool fun s7 =>
 R (dB (!s7)))))
 (sel (decide (3 < a0.kind))
 (sel (!decide (a0.n = 0))
 (R (dB false))
 (Call1 Tryz.prog zW [dS a0.rows, .clo zzb none [.iptr [dI a0.kind, .sl .int a0.vars, .sl .int a0.consts, dI a0.n, dS a0.rows, .sl .lit a0.lits] 0]] .bool fun s8 =>
 R (dB (!s8))))
 (Call1 Tryz.prog zW [dS a0.rows, .clo zzb none [.iptr [dI a0.kind, .sl .int a0.vars, .sl .int a0.consts, dI a0.n, dS a0.rows, .sl .lit a0.lits] 0]] .bool fun s9 =>
 R (dB (!s9))))))))) := by kernel_rfl
theorem zor (a0 : ConD) : SatI z4j Tryz.f93 zxe [dC a0] := satD Tryz.func93 (by kernel_rfl) Tryz.ntmps93 rfl
def z5j : Ann := { own := [], live := [], n := 8, nils := [], pubs := [] }
theorem zpr (a0 : LitD) (h0 : FuncId) (hap0 : List D) (R : D → Prop) : FD z5j Tryz.f95 [dL a0, .iptr [.clo h0 (some [.bool]) hap0] 0] R =
 (Ent Tryz.prog h0 ∧
 Call1 Tryz.prog h0 ([dI a0.var] ++ hap0) .bool fun r1 =>
 R (dB r1)) := by kernel_rfl
theorem zqr (a0 : LitD) (h0 : FuncId) (hap0 : List D) : SatI z5j Tryz.f95 zye [dL a0, .iptr [.clo h0 (some [.bool]) hap0] 0] := satD Tryz.func95 (by kernel_rfl) Tryz.ntmps95 rfl
def z6j : Ann := { own := [], live := [], n := 7, nils := [], pubs := [] }
theorem zrr (a0 : List Int) (h0 : FuncId) (hap0 : List D) (R : D → Prop) : FD z6j Tryz.f97 [.sl .int a0, .iptr [.clo h0 (some [.bool]) hap0] 0] R =
 (Call1 Tryz.prog ztb [.sl .int a0, .clo h0 (some [.bool]) hap0] .bool fun s1 =>
 R (dB s1)) := by kernel_rfl
theorem zsr (a0 : List Int) (h0 : FuncId) (hap0 : List D) : SatI z6j Tryz.f97 zze [.sl .int a0, .iptr [.clo h0 (some [.bool]) hap0] 0] := satD Tryz.func97 (by kernel_rfl) Tryz.ntmps97 rfl
def z7j : Ann := { own := [], live := [], n := 13, nils := [], pubs := [] }
theorem ztr (a0 : Int) (c0 : List Int) (c1 : ConD) (R : D → Prop) : FD z7j Tryz.f112 [dI a0, .iptr [.sl .int c0] 0, .iptr [dI c1.kind, .sl .int c1.vars, .sl .int c1.consts, dI c1.n, dS c1.rows, .sl .lit c1.lits] 0] R =
 (inb a0 c1.vars.length = true ∧
 inb (at' .int c1.vars a0.toNat) c0.length = true ∧
 R (dI (at' .int c0 ((at' .int c1.vars a0.toNat).toNat)))) := by kernel_rfl
theorem zur (a0 : Int) (c0 : List Int) (c1 : ConD) : SatI z7j Tryz.f112 ze [dI a0, .iptr [.sl .int c0] 0, .iptr [dI c1.kind, .sl .int c1.vars, .sl .int c1.consts, dI c1.n, dS c1.rows, .sl .lit c1.lits] 0] := satD Tryz.func112 (by kernel_rfl) Tryz.ntmps112 rfl
def z8j : Ann := { own := [], live := [], n := 11, nils := [], pubs := [] }
theorem zvr (a0 : LitD) (c0 : List Int) (R : D → Prop) : FD z8j Tryz.f113 [dL a0, .iptr [.sl .int c0] 0] R =
 (inb a0.var c0.length = true ∧
 Call1 Tryz.prog zxb [dL a0, dI (at' .int c0 a0.var.toNat)] .bool fun m1 =>
 R (dB m1)) := by kernel_rfl
theorem zwr (a0 : LitD) (c0 : List Int) : SatI z8j Tryz.f113 zgb [dL a0, .iptr [.sl .int c0] 0] := satD Tryz.func113 (by kernel_rfl) Tryz.ntmps113 rfl
def z9j : Ann := { own := [], live := [], n := 29, nils := [], pubs := [] }
theorem zxr (a0 : LitD) (a1 : Int) (R : D → Prop) : FD z9j Tryz.f114 [dL a0, dI a1] R =
 (sel (decide (a0.op = 1))
 (R (dB (decide (a1 ≤ a0.n))))
 (sel (decide (a0.op = 2))
 (R (dB (decide (a0.n ≤ a1))))
 (sel (decide (a0.op = 3))
 (R (dB (decide (a1 = a0.n))))
 (R (dB (!decide (a1 = a0.n))))))) := by kernel_rfl
theorem zyr (a0 : LitD) (a1 : Int) : SatI z9j Tryz.f114 zxb [dL a0, dI a1] := satD Tryz.func114 (by kernel_rfl) Tryz.ntmps114 rfl
def zak : Ann := { own := [], live := [], n := 23, nils := [], pubs := [] }
theorem zzr (a0 : ConD) (a1 : Int) (R : D → Prop) : FD zak Tryz.f115 [dC a0, dI a1] R =
 (sel (decide (a0.kind = 1))
 (R (dB (decide (a1 ≤ a0.n))))
 (sel (decide (a0.kind = 2))
 (R (dB (decide (a1 = a0.n))))
 (R (dB (!decide (a1 = a0.n)))))) := by kernel_rfl
theorem zAr (a0 : ConD) (a1 : Int) : SatI zak Tryz.f115 zyb [dC a0, dI a1] := satD Tryz.func115 (by kernel_rfl) Tryz.ntmps115 rfl
def zbk : Ann := { own := [], live := [], n := 7, nils := [], pubs := [] }
theorem zBr (a0 : List Int) (c0 : List Int) (R : D → Prop) : FD zbk Tryz.f116 [.sl .int a0, .iptr [.sl .int c0] 0] R =
 (Call1 Tryz.prog zS [.sl .int a0, .sl .int c0] .bool fun s1 =>
 R (dB s1)) := by kernel_rfl
theorem zCr (a0 : List Int) (c0 : List Int) : SatI zbk Tryz.f116 zDe [.sl .int a0, .iptr [.sl .int c0] 0] := satD Tryz.func116 (by kernel_rfl) Tryz.ntmps116 rfl
def zck : Ann := { own := [2], live := [], n := 32, nils := [], pubs := [] }
theorem zDr (a0 : ConD) (R : D → Prop) : FD zck Tryz.f131 [dC a0] R =
 (sel (decide (a0.kind = 1))
 (R (.agg [dI 1, dI 4, dI (a0.vars.length : Int), dI 0, dI 0]))
 (sel (decide (a0.kind = 2))
 (R (.agg [dI 1, dI 4, dI (a0.vars.length : Int), dI 0, dI 0]))
 (sel (decide (a0.kind = 3))
 (R (.agg [dI 1, dI 4, dI (a0.vars.length : Int), dI 0, dI 0]))
 (sel (decide (a0.kind = 4))
 (R (.agg [dI 1, dI 4, dI 0, dI 0, dI 0]))
 (sel (decide (a0.kind = 5))
 (R (.agg [dI 2, dI 2, dI (-1), dI 0, dI 0]))
 (sel (decide (a0.kind = 6))
 (R (.agg [dI 1, dI 4, dI 0, dI (-1), dI 0]))
 (sel (decide (a0.kind = 7))
 (R (.agg [dI 3, dI 3, dI 0, dI 0, dI 0]))
 (sel (decide (a0.kind = 8))
 (R (.agg [dI 2, dI 4, dI 0, dI 0, dI 0]))
 (sel (decide (a0.kind = 9))
 (R (.agg [dI 0, dI 0, dI 0, dI 0, dI (-1)]))
 (R (.agg [dI 1, dI 1, dI 0, dI 0, dI 1]))))))))))) := by kernel_rfl
theorem zEr (a0 : ConD) : SatI zck Tryz.f131 zIe [dC a0] := satD Tryz.func131 (by kernel_rfl) Tryz.ntmps131 rfl
def zdk : Ann := { own := [], live := [], n := 12, nils := [], pubs := [] }
theorem zFr (a0 : Int) (a1 : Int) (R : D → Prop) : FD zdk Tryz.f132 [dI a0, dI a1] R =
 (sel (decide (a1 = (-1)))
 (R (dB true))
 (R (dB (decide (a0 = a1))))) := by kernel_rfl
theorem zGr (a0 : Int) (a1 : Int) : SatI zdk Tryz.f132 zkc [dI a0, dI a1] := satD Tryz.func132 (by kernel_rfl) Tryz.ntmps132 rfl
def zek : Ann := { own := [], live := [], n := 10, nils := [], pubs := [] }
theorem zHr (a0 : List Int) (c0 : ConD) (R : D → Prop) : FD zek Tryz.f133 [.sl .int a0, .iptr [dI c0.kind, .sl .int c0.vars, .sl .int c0.consts, dI c0.n, dS c0.rows, .sl .lit c0.lits] 0] R =
 (R (dB (!decide ((a0.length : Int) = (c0.vars.length : Int))))) := by kernel_rfl
theorem zIr (a0 : List Int) (c0 : ConD) : SatI zek Tryz.f133 zzb [.sl .int a0, .iptr [dI c0.kind, .sl .int c0.vars, .sl .int c0.consts, dI c0.n, dS c0.rows, .sl .lit c0.lits] 0] := satD Tryz.func133 (by kernel_rfl) Tryz.ntmps133 rfl
end Go.Proofs.YtajnbkhgnppckaaGreatDoor
