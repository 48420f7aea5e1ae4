/- What the functions of a package do, as equations of plain propositions: printed by a program that carries the code out on symbols. -/
import Derived.Test.YtajnbkhgnppckaaGreatDoorWEv
namespace Go.Proofs.YtajnbkhgnppckaaGreatDoor
open Go.RowKit
set_option linter.unusedVariables false
set_option maxRecDepth 100000
def zDf : Ann := { own := [], live := [(0, ([0, 1, 5], []))], n := 26, nils := [], pubs := [] }
def zEf (a0 : List Int) (a1 : List Int) (R : D → Prop) (n0 : Nat) (i1 : Int) : Prop := LP zDf Tryz.f12 [1, 1, 0, 1, 0, 0] 0 n0 ⟨[(0, .sl .int a0), (1, .sl .int a1), (5, dI i1)], []⟩ (blockK 0 (sK zDf Tryz.f12 [1, 1, 1] 0 (eK Tryz.f12 R)))
theorem zlk (a0 : List Int) (a1 : List Int) (R : D → Prop) (n0 : Nat) (i1 : Int) : zEf a0 a1 R (n0 + 1) i1 =
 (sel (decide (i1 < (a0.length : Int)))
 (inb i1 a0.length = true ∧
 inb i1 a1.length = true ∧
 sel (!decide ((at' .int a0 i1.toNat) = (at' .int a1 i1.toNat)))
 (R (dB false))
 (zEf a0 a1 R n0 (w64 (i1 + 1))))
 (R (dB true))) := by kernel_rfl
theorem zOr (a0 : List Int) (a1 : List Int) (R : D → Prop) : FD zDf Tryz.f12 [.sl .int a0, .sl .int a1] R =
 (sel (!decide ((a0.length : Int) = (a1.length : Int)))
 (R (dB false))
 (∃ n0, zEf a0 a1 R n0 0)) := by kernel_rfl
theorem zPr (a0 : List Int) (a1 : List Int) : SatI zDf Tryz.f12 z4d [.sl .int a0, .sl .int a1] := satD Tryz.func12 (by kernel_rfl) Tryz.ntmps12 rfl
def zU : Ann := { own := [5], live := [(0, ([1, 3, 4], [])), (2, ([1, 3, 4, 5, 6], [5])), (4, ([1, 3, 7], []))], n := 114, nils := [], pubs := [] }
def zFf (a0 : MdlD) (R : D → Prop) (n0 : Nat) (v1 : Int) (n2 : Nat) (v3 : Int) : Prop := LP zU Tryz.f15 [1, 1, 1, 1, 0, 1, 0, 0, 1, 0, 0, 1, 1, 0, 1, 0, 0] 2 n2 ⟨[(1, .iptr [.sl .var a0.vars, .sl .con a0.cons, dI a0.goal, dI a0.var] 0), (3, dI (a0.vars.length : Int)), (4, dI v1), (5, .ptr 5 0), (6, dI v3)], [(5, .cells [.str ((at' .var a0.vars v1.toNat).name), dI ((at' .var a0.vars v1.toNat).lo), dI ((at' .var a0.vars v1.toNat).hi)])]⟩ (blockK 2 (sK zU Tryz.f15 [1, 1, 1, 1, 0, 1, 0, 0, 1, 0, 0, 1, 1, 1] 1 (blockK 1 (sK zU Tryz.f15 [1, 1, 1, 1, 0, 1, 0, 0, 1, 1] 0 (iK zU Tryz.f15 [1, 1, 1, 1, 0, 1, 0, 0] 0 n0 (blockK 0 (sK zU Tryz.f15 [1, 1, 1, 1, 1] 0 (eK Tryz.f15 R))))))))
def zGf (a0 : MdlD) (R : D → Prop) (n4 : Nat) (v6 : Int) : Prop := LP zU Tryz.f15 [1, 1, 1, 1, 1, 0, 1, 0, 0] 4 n4 ⟨[(1, .iptr [.sl .var a0.vars, .sl .con a0.cons, dI a0.goal, dI a0.var] 0), (3, dI (a0.vars.length : Int)), (7, dI v6)], []⟩ (blockK 4 (sK zU Tryz.f15 [1, 1, 1, 1, 1, 1] 0 (eK Tryz.f15 R)))
def zHf (a0 : MdlD) (R : D → Prop) (n0 : Nat) (v1 : Int) : Prop := LP zU Tryz.f15 [1, 1, 1, 1, 0, 1, 0, 0] 0 n0 ⟨[(1, .iptr [.sl .var a0.vars, .sl .con a0.cons, dI a0.goal, dI a0.var] 0), (3, dI (a0.vars.length : Int)), (4, dI v1)], []⟩ (blockK 0 (sK zU Tryz.f15 [1, 1, 1, 1, 1] 0 (eK Tryz.f15 R)))
theorem zmk (a0 : MdlD) (R : D → Prop) (n0 : Nat) (v1 : Int) (n2 : Nat) (v3 : Int) : zFf a0 R n0 v1 (n2 + 1) v3 =
 (sel (decide (v3 < v1))
 (inb v3 a0.vars.length = true ∧
 sel (decide (((at' .var a0.vars v3.toNat).name) = ((at' .var a0.vars v1.toNat).name)))
 (R (dI 6))
 (zFf a0 R n0 v1 n2 (w64 (v3 + 1))))
 (Call1 Tryz.prog zA [dI ((at' .var a0.vars v1.toNat).lo), dI (-50), dI 50] .bool fun c4 =>
 sel (!c4)
 (R (dI 3))
 (Call1 Tryz.prog zA [dI ((at' .var a0.vars v1.toNat).hi), dI (-50), dI 50] .bool fun c5 =>
 sel (!c5)
 (R (dI 3))
 (sel (decide (((at' .var a0.vars v1.toNat).hi) < ((at' .var a0.vars v1.toNat).lo)))
 (R (dI 3))
 (sel (decide (6 < (w64 ((w64 (((at' .var a0.vars v1.toNat).hi) - ((at' .var a0.vars v1.toNat).lo))) + 1))))
 (R (dI 2))
 (zHf a0 R n0 (w64 (v1 + 1)))))))) := by kernel_rfl
theorem znk (a0 : MdlD) (R : D → Prop) (n4 : Nat) (v6 : Int) : zGf a0 R (n4 + 1) v6 =
 (sel (decide (v6 < (a0.cons.length : Int)))
 (inb v6 a0.cons.length = true ∧
 Call1 Tryz.prog zce [dM a0, dC (at' .con a0.cons v6.toNat)] .int fun c7 =>
 sel (!decide (c7 = 0))
 (R (dI c7))
 (zGf a0 R n4 (w64 (v6 + 1))))
 (Call1 Tryz.prog zA [dI a0.goal, dI 0, dI 2] .bool fun c8 =>
 sel (!c8)
 (R (dI 7))
 (sel (decide (a0.goal = 0))
 (sel (!decide (a0.var = 0))
 (R (dI 1))
 (sel (!decide (a0.goal = 0))
 (Call1 Tryz.prog zA [dI a0.var, dI 0, dI (w64 ((a0.vars.length : Int) - 1))] .bool fun c9 =>
 sel (!c9)
 (R (dI 5))
 (R (dI 0)))
 (R (dI 0))))
 (sel (!decide (a0.goal = 0))
 (Call1 Tryz.prog zA [dI a0.var, dI 0, dI (w64 ((a0.vars.length : Int) - 1))] .bool fun c10 =>
 sel (!c10)
 (R (dI 5))
 (R (dI 0)))
 (R (dI 0)))))) := by kernel_rfl
theorem zok (a0 : MdlD) (R : D → Prop) (n0 : Nat) (v1 : Int) : zHf a0 R (n0 + 1) v1 =
 (sel (decide (v1 < (a0.vars.length : Int)))
 (inb v1 a0.vars.length = true ∧
 Call1 Tryz.prog zmh [.str ((at' .var a0.vars v1.toNat).name)] .bool fun c2 =>
 sel (!c2)
 (R (dI 1))
 (∃ n2, zFf a0 R n0 v1 n2 0))
 (∃ n4, zGf a0 R n4 0)) := by kernel_rfl
theorem zQr (a0 : MdlD) (R : D → Prop) : FD zU Tryz.f15 [dM a0] R =
 (sel (decide ((a0.vars.length : Int) = 0))
 (R (dI 1))
 (sel (decide (6 < (a0.vars.length : Int)))
 (R (dI 2))
 (sel (decide (8 < (a0.cons.length : Int)))
 (R (dI 2))
 (∃ n0, zHf a0 R n0 0)))) := by kernel_rfl
theorem zRr (a0 : MdlD) : SatI zU Tryz.f15 z5d [dM a0] := satD Tryz.func15 (by kernel_rfl) Tryz.ntmps15 rfl
def zpk : Ann := { own := [], live := [], n := 31, nils := [], pubs := [] }
theorem zSr (a0 : MdlD) (a1 : List Int) (R : D → Prop) : FD zpk Tryz.f20 [dM a0, .sl .int a1] R =
 (sel (decide (a0.goal = 1))
 (inb a0.var a1.length = true ∧
 R (.sl .lit ([(⟨a0.var, 1, w64 ((at' .int a1 a0.var.toNat) - 1)⟩ : LitD)])))
 (sel (decide (a0.goal = 2))
 (inb a0.var a1.length = true ∧
 R (.sl .lit ([(⟨a0.var, 2, w64 ((at' .int a1 a0.var.toNat) + 1)⟩ : LitD)])))
 (R (.sl .lit ([] : List LitD))))) := by kernel_rfl
theorem zTr (a0 : MdlD) (a1 : List Int) : SatI zpk Tryz.f20 z7d [dM a0, .sl .int a1] := satD Tryz.func20 (by kernel_rfl) Tryz.ntmps20 rfl
def zIf : Ann := { own := [], live := [(0, ([0, 1, 5], []))], n := 26, nils := [], pubs := [] }
def zJf (a0 : List LitD) (a1 : List LitD) (R : D → Prop) (n0 : Nat) (i1 : Int) : Prop := LP zIf Tryz.f22 [1, 1, 0, 1, 0, 0] 0 n0 ⟨[(0, .sl .lit a0), (1, .sl .lit a1), (5, dI i1)], []⟩ (blockK 0 (sK zIf Tryz.f22 [1, 1, 1] 0 (eK Tryz.f22 R)))
theorem zqk (a0 : List LitD) (a1 : List LitD) (R : D → Prop) (n0 : Nat) (i1 : Int) : zJf a0 a1 R (n0 + 1) i1 =
 (sel (decide (i1 < (a0.length : Int)))
 (inb i1 a0.length = true ∧
 inb i1 a1.length = true ∧
 sel (!decide ((at' .lit a0 i1.toNat) = (at' .lit a1 i1.toNat)))
 (R (dB false))
 (zJf a0 a1 R n0 (w64 (i1 + 1))))
 (R (dB true))) := by kernel_rfl
theorem zUr (a0 : List LitD) (a1 : List LitD) (R : D → Prop) : FD zIf Tryz.f22 [.sl .lit a0, .sl .lit a1] R =
 (sel (!decide ((a0.length : Int) = (a1.length : Int)))
 (R (dB false))
 (∃ n0, zJf a0 a1 R n0 0)) := by kernel_rfl
theorem zVr (a0 : List LitD) (a1 : List LitD) : SatI zIf Tryz.f22 zjc [.sl .lit a0, .sl .lit a1] := satD Tryz.func22 (by kernel_rfl) Tryz.ntmps22 rfl
def zrk : Ann := { own := [], live := [], n := 15, nils := [], pubs := [] }
theorem zWr (a0 : Int) (a1 : Int) (a2 : Int) (R : D → Prop) : FD zrk Tryz.f40 [dI a0, dI a1, dI a2] R =
 (sel (decide (a1 ≤ a0))
 (R (dB (decide (a0 ≤ a2))))
 (R (dB false))) := by kernel_rfl
theorem zXr (a0 : Int) (a1 : Int) (a2 : Int) : SatI zrk Tryz.f40 zA [dI a0, dI a1, dI a2] := satD Tryz.func40 (by kernel_rfl) Tryz.ntmps40 rfl
def zr : Ann := { own := [], live := [(0, ([2, 3, 5], [])), (2, ([2, 3, 6], [])), (4, ([2, 3, 7], [])), (6, ([2, 3, 8], [])), (8, ([2, 3, 8, 9], [])), (10, ([2, 3, 10], []))], n := 140, nils := [], pubs := [] }
def zKf (a0 : MdlD) (a1 : ConD) (R : D → Prop) (n6 : Nat) (v10 : Int) (n8 : Nat) (v11 : Int) : Prop := LP zr Tryz.f41 [1, 1, 1, 1, 1, 1, 1, 1, 0, 1, 0, 0, 1, 0, 0, 1, 0, 0] 8 n8 ⟨[(2, .iptr [.sl .var a0.vars, .sl .con a0.cons, dI a0.goal, dI a0.var] 0), (3, .iptr [dI a1.kind, .sl .int a1.vars, .sl .int a1.consts, dI a1.n, dS a1.rows, .sl .lit a1.lits] 0), (8, dI v10), (9, dI v11)], []⟩ (blockK 8 (blockK 7 (sK zr Tryz.f41 [1, 1, 1, 1, 1, 1, 1, 1, 0, 1, 0, 0, 1, 1] 6 (iK zr Tryz.f41 [1, 1, 1, 1, 1, 1, 1, 1, 0, 1, 0, 0] 6 n6 (blockK 6 (sK zr Tryz.f41 [1, 1, 1, 1, 1, 1, 1, 1, 1] 0 (eK Tryz.f41 R)))))))
def zLf (a0 : MdlD) (a1 : ConD) (R : D → Prop) (n10 : Nat) (v13 : Int) : Prop := LP zr Tryz.f41 [1, 1, 1, 1, 1, 1, 1, 1, 1, 0, 1, 0, 0] 10 n10 ⟨[(2, .iptr [.sl .var a0.vars, .sl .con a0.cons, dI a0.goal, dI a0.var] 0), (3, .iptr [dI a1.kind, .sl .int a1.vars, .sl .int a1.consts, dI a1.n, dS a1.rows, .sl .lit a1.lits] 0), (10, dI v13)], []⟩ (blockK 10 (sK zr Tryz.f41 [1, 1, 1, 1, 1, 1, 1, 1, 1, 1] 0 (eK Tryz.f41 R)))
def zMf (a0 : MdlD) (a1 : ConD) (R : D → Prop) (n6 : Nat) (v10 : Int) : Prop := LP zr Tryz.f41 [1, 1, 1, 1, 1, 1, 1, 1, 0, 1, 0, 0] 6 n6 ⟨[(2, .iptr [.sl .var a0.vars, .sl .con a0.cons, dI a0.goal, dI a0.var] 0), (3, .iptr [dI a1.kind, .sl .int a1.vars, .sl .int a1.consts, dI a1.n, dS a1.rows, .sl .lit a1.lits] 0), (8, dI v10)], []⟩ (blockK 6 (sK zr Tryz.f41 [1, 1, 1, 1, 1, 1, 1, 1, 1] 0 (eK Tryz.f41 R)))
def zNf (a0 : MdlD) (a1 : ConD) (R : D → Prop) (n4 : Nat) (v7 : Int) : Prop := LP zr Tryz.f41 [1, 1, 1, 1, 1, 1, 0, 1, 0, 0] 4 n4 ⟨[(2, .iptr [.sl .var a0.vars, .sl .con a0.cons, dI a0.goal, dI a0.var] 0), (3, .iptr [dI a1.kind, .sl .int a1.vars, .sl .int a1.consts, dI a1.n, dS a1.rows, .sl .lit a1.lits] 0), (7, dI v7)], []⟩ (blockK 4 (sK zr Tryz.f41 [1, 1, 1, 1, 1, 1, 1] 0 (eK Tryz.f41 R)))
def zOf (a0 : MdlD) (a1 : ConD) (R : D → Prop) (n2 : Nat) (v5 : Int) : Prop := LP zr Tryz.f41 [1, 1, 1, 1, 1, 0, 1, 0, 0] 2 n2 ⟨[(2, .iptr [.sl .var a0.vars, .sl .con a0.cons, dI a0.goal, dI a0.var] 0), (3, .iptr [dI a1.kind, .sl .int a1.vars, .sl .int a1.consts, dI a1.n, dS a1.rows, .sl .lit a1.lits] 0), (6, dI v5)], []⟩ (blockK 2 (sK zr Tryz.f41 [1, 1, 1, 1, 1, 1] 0 (eK Tryz.f41 R)))
def zPf (a0 : MdlD) (a1 : ConD) (R : D → Prop) (n0 : Nat) (v3 : Int) : Prop := LP zr Tryz.f41 [1, 1, 1, 1, 0, 1, 0, 0] 0 n0 ⟨[(2, .iptr [.sl .var a0.vars, .sl .con a0.cons, dI a0.goal, dI a0.var] 0), (3, .iptr [dI a1.kind, .sl .int a1.vars, .sl .int a1.consts, dI a1.n, dS a1.rows, .sl .lit a1.lits] 0), (5, dI v3)], []⟩ (blockK 0 (sK zr Tryz.f41 [1, 1, 1, 1, 1] 0 (eK Tryz.f41 R)))
theorem zsk (a0 : MdlD) (a1 : ConD) (R : D → Prop) (n6 : Nat) (v10 : Int) (n8 : Nat) (v11 : Int) : zKf a0 a1 R n6 v10 (n8 + 1) v11 =
 (inb v10 a1.rows.length = true ∧
 sel (decide (v11 < ((at' (.list .int) a1.rows v10.toNat).length : Int)))
 (inb v10 a1.rows.length = true ∧
 inb v11 (at' (.list .int) a1.rows v10.toNat).length = true ∧
 Call1 Tryz.prog zWb [dI (at' .int (at' (.list .int) a1.rows v10.toNat) v11.toNat)] .bool fun c12 =>
 sel (!c12)
 (R (dI 3))
 (zKf a0 a1 R n6 v10 n8 (w64 (v11 + 1))))
 (zMf a0 a1 R n6 (w64 (v10 + 1)))) := by kernel_rfl
theorem ztk (a0 : MdlD) (a1 : ConD) (R : D → Prop) (n10 : Nat) (v13 : Int) : zLf a0 a1 R (n10 + 1) v13 =
 (sel (decide (v13 < (a1.lits.length : Int)))
 (inb v13 a1.lits.length = true ∧
 Call1 Tryz.prog zme [dM a0, dL (at' .lit a1.lits v13.toNat)] .int fun c14 =>
 sel (!decide (c14 = 0))
 (R (dI c14))
 (zLf a0 a1 R n10 (w64 (v13 + 1))))
 (R (dI 0))) := by kernel_rfl
theorem zuk (a0 : MdlD) (a1 : ConD) (R : D → Prop) (n6 : Nat) (v10 : Int) : zMf a0 a1 R (n6 + 1) v10 =
 (sel (decide (v10 < (a1.rows.length : Int)))
 (∃ n8, zKf a0 a1 R n6 v10 n8 0)
 (∃ n10, zLf a0 a1 R n10 0)) := by kernel_rfl
theorem zvk (a0 : MdlD) (a1 : ConD) (R : D → Prop) (n4 : Nat) (v7 : Int) : zNf a0 a1 R (n4 + 1) v7 =
 (sel (decide (v7 < (a1.consts.length : Int)))
 (inb v7 a1.consts.length = true ∧
 Call1 Tryz.prog zWb [dI (at' .int a1.consts v7.toNat)] .bool fun c8 =>
 sel (!c8)
 (R (dI 3))
 (zNf a0 a1 R n4 (w64 (v7 + 1))))
 (Call1 Tryz.prog zWb [dI a1.n] .bool fun c9 =>
 sel (!c9)
 (R (dI 3))
 (∃ n6, zMf a0 a1 R n6 0))) := by kernel_rfl
theorem zwk (a0 : MdlD) (a1 : ConD) (R : D → Prop) (n2 : Nat) (v5 : Int) : zOf a0 a1 R (n2 + 1) v5 =
 (sel (decide (v5 < (a1.lits.length : Int)))
 (inb v5 a1.lits.length = true ∧
 Call1 Tryz.prog zA [dI ((at' .lit a1.lits v5.toNat).var), dI 0, dI (w64 ((a0.vars.length : Int) - 1))] .bool fun c6 =>
 sel (!c6)
 (R (dI 5))
 (zOf a0 a1 R n2 (w64 (v5 + 1))))
 (∃ n4, zNf a0 a1 R n4 0)) := by kernel_rfl
theorem zxk (a0 : MdlD) (a1 : ConD) (R : D → Prop) (n0 : Nat) (v3 : Int) : zPf a0 a1 R (n0 + 1) v3 =
 (sel (decide (v3 < (a1.vars.length : Int)))
 (inb v3 a1.vars.length = true ∧
 Call1 Tryz.prog zA [dI (at' .int a1.vars v3.toNat), dI 0, dI (w64 ((a0.vars.length : Int) - 1))] .bool fun c4 =>
 sel (!c4)
 (R (dI 5))
 (zPf a0 a1 R n0 (w64 (v3 + 1))))
 (∃ n2, zOf a0 a1 R n2 0)) := by kernel_rfl
theorem zYr (a0 : MdlD) (a1 : ConD) (R : D → Prop) : FD zr Tryz.f41 [dM a0, dC a1] R =
 (Call1 Tryz.prog zA [dI a1.kind, dI 1, dI 10] .bool fun c1 =>
 sel (!c1)
 (R (dI 7))
 (sel (decide (4 < (a1.vars.length : Int)))
 (R (dI 2))
 (sel (decide (4 < (a1.lits.length : Int)))
 (R (dI 2))
 (sel (decide (8 < (a1.consts.length : Int)))
 (R (dI 2))
 (sel (decide (20 < (a1.rows.length : Int)))
 (R (dI 2))
 (Call1 Tryz.prog zle [dC a1] .bool fun c2 =>
 sel (!c2)
 (R (dI 1))
 (∃ n0, zPf a0 a1 R n0 0))))))) := by kernel_rfl
theorem zZr (a0 : MdlD) (a1 : ConD) : SatI zr Tryz.f41 zce [dM a0, dC a1] := satD Tryz.func41 (by kernel_rfl) Tryz.ntmps41 rfl
def zBb : Ann := { own := [], live := [(1, ([1, 3, 4, 5, 6, 7], []))], n := 164, nils := [], pubs := [] }
def zQf (a0 : ConD) (R : D → Prop) (n1 : Nat) (v1 : Int) : Prop := LP zBb Tryz.f67 [1, 1, 1, 0, 1, 0, 1, 1, 1, 1, 1, 1, 1, 0, 0, 1, 0, 0] 1 n1 ⟨[(1, .iptr [dI a0.kind, .sl .int a0.vars, .sl .int a0.consts, dI a0.n, dS a0.rows, .sl .lit a0.lits] 0), (3, dI (a0.vars.length : Int)), (4, dI (a0.consts.length : Int)), (5, dI (a0.rows.length : Int)), (6, dI (a0.lits.length : Int)), (7, dI v1)], []⟩ (blockK 1 (sK zBb Tryz.f67 [1, 1, 1, 0, 1, 0, 1, 1, 1, 1, 1, 1, 1, 0, 1] 0 (blockK 0 (sK zBb Tryz.f67 [1, 1, 1, 1] 0 (eK Tryz.f67 R)))))
def z0r (a0 : ConD) (R : D → Prop) (n1_2 : Nat) (v2 : Int) : Prop := LP zBb Tryz.f67 [1, 1, 1, 0, 1, 0, 1, 1, 1, 1, 1, 1, 1, 0, 0, 1, 0, 0] 1 n1_2 ⟨[(1, .iptr [dI a0.kind, .sl .int a0.vars, .sl .int a0.consts, dI a0.n, dS a0.rows, .sl .lit a0.lits] 0), (3, dI (a0.vars.length : Int)), (4, dI (a0.consts.length : Int)), (5, dI (a0.rows.length : Int)), (6, dI (a0.lits.length : Int)), (7, dI v2)], []⟩ (blockK 1 (sK zBb Tryz.f67 [1, 1, 1, 0, 1, 0, 1, 1, 1, 1, 1, 1, 1, 0, 1] 0 (blockK 0 (sK zBb Tryz.f67 [1, 1, 1, 1] 0 (eK Tryz.f67 R)))))
theorem zyk (a0 : ConD) (R : D → Prop) (n1 : Nat) (v1 : Int) : zQf a0 R (n1 + 1) v1 =
 (sel (decide (v1 < (a0.rows.length : Int)))
 (inb v1 a0.rows.length = true ∧
 sel (!decide (((at' (.list .int) a0.rows v1.toNat).length : Int) = (a0.vars.length : Int)))
 (R (dB false))
 (zQf a0 R n1 (w64 (v1 + 1))))
 (sel (decide (1 ≤ (a0.vars.length : Int)))
 (sel (decide ((a0.consts.length : Int) = 0))
 (R (dB (decide ((a0.lits.length : Int) = 0))))
 (R (dB false)))
 (R (dB false)))) := by kernel_rfl
theorem z1r (a0 : ConD) (R : D → Prop) : FD zBb Tryz.f67 [dC a0] R =
 (sel (decide (3 < a0.kind))
 (sel (!decide (a0.n = 0))
 (R (dB false))
 (sel (decide (a0.kind = 1))
 (sel (decide (1 ≤ (a0.vars.length : Int)))
 (sel (decide ((a0.consts.length : Int) = (a0.vars.length : Int)))
 (sel (decide ((a0.rows.length : Int) = 0))
 (R (dB (decide ((a0.lits.length : Int) = 0))))
 (R (dB false)))
 (R (dB false)))
 (R (dB false)))
 (sel (decide (a0.kind = 2))
 (sel (decide (1 ≤ (a0.vars.length : Int)))
 (sel (decide ((a0.consts.length : Int) = (a0.vars.length : Int)))
 (sel (decide ((a0.rows.length : Int) = 0))
 (R (dB (decide ((a0.lits.length : Int) = 0))))
 (R (dB false)))
 (R (dB false)))
 (R (dB false)))
 (sel (decide (a0.kind = 3))
 (sel (decide (1 ≤ (a0.vars.length : Int)))
 (sel (decide ((a0.consts.length : Int) = (a0.vars.length : Int)))
 (sel (decide ((a0.rows.length : Int) = 0))
 (R (dB (decide ((a0.lits.length : Int) = 0))))
 (R (dB false)))
 (R (dB false)))
 (R (dB false)))
 (sel (decide (a0.kind = 4))
 (sel (decide (1 ≤ (a0.vars.length : Int)))
 (sel (decide ((a0.consts.length : Int) = 0))
 (sel (decide ((a0.rows.length : Int) = 0))
 (R (dB (decide ((a0.lits.length : Int) = 0))))
 (R (dB false)))
 (R (dB false)))
 (R (dB false)))
 (sel (decide (a0.kind = 5))
 (sel (decide ((a0.vars.length : Int) = 2))
 (sel (decide (1 ≤ (a0.consts.length : Int)))
 (sel (decide ((a0.rows.length : Int) = 0))
 (R (dB (decide ((a0.lits.length : Int) = 0))))
 (R (dB false)))
 (R (dB false)))
 (R (dB false)))
 (sel (decide (a0.kind = 6))
 (∃ n1, zQf a0 R n1 0)
 (sel (decide (a0.kind = 7))
 (sel (decide ((a0.vars.length : Int) = 3))
 (sel (decide ((a0.consts.length : Int) = 0))
 (sel (decide ((a0.rows.length : Int) = 0))
 (R (dB (decide ((a0.lits.length : Int) = 0))))
 (R (dB false)))
 (R (dB false)))
 (R (dB false)))
 (sel (decide (a0.kind = 8))
 (sel (decide (2 ≤ (a0.vars.length : Int)))
 (sel (decide ((a0.consts.length : Int) = 0))
 (sel (decide ((a0.rows.length : Int) = 0))
 (R (dB (decide ((a0.lits.length : Int) = 0))))
 (R (dB false)))
 (R (dB false)))
 (R (dB false)))
 (sel (decide (a0.kind = 9))
 (sel (decide ((a0.vars.length : Int) = 0))
 (sel (decide ((a0.consts.length : Int) = 0))
 (R (dB (decide ((a0.rows.length : Int) = 0))))
 (R (dB false)))
 (R (dB false)))
 (sel (decide ((a0.vars.length : Int) = 1))
 (sel (decide ((a0.consts.length : Int) = 0))
 (sel (decide ((a0.rows.length : Int) = 0))
 (R (dB (decide ((a0.lits.length : Int) = 1))))
 (R (dB false)))
 (R (dB false)))
 (R (dB false)))))))))))))
 (sel (decide (a0.kind = 1))
 (sel (decide (1 ≤ (a0.vars.length : Int)))
 (sel (decide ((a0.consts.length : Int) = (a0.vars.length : Int)))
 (sel (decide ((a0.rows.length : Int) = 0))
 (R (dB (decide ((a0.lits.length : Int) = 0))))
 (R (dB false)))
 (R (dB false)))
 (R (dB false)))
 (sel (decide (a0.kind = 2))
 (sel (decide (1 ≤ (a0.vars.length : Int)))
 (sel (decide ((a0.consts.length : Int) = (a0.vars.length : Int)))
 (sel (decide ((a0.rows.length : Int) = 0))
 (R (dB (decide ((a0.lits.length : Int) = 0))))
 (R (dB false)))
 (R (dB false)))
 (R (dB false)))
 (sel (decide (a0.kind = 3))
 (sel (decide (1 ≤ (a0.vars.length : Int)))
 (sel (decide ((a0.consts.length : Int) = (a0.vars.length : Int)))
 (sel (decide ((a0.rows.length : Int) = 0))
 (R (dB (decide ((a0.lits.length : Int) = 0))))
 (R (dB false)))
 (R (dB false)))
 (R (dB false)))
 (sel (decide (a0.kind = 4))
 (sel (decide (1 ≤ (a0.vars.length : Int)))
 (sel (decide ((a0.consts.length : Int) = 0))
 (sel (decide ((a0.rows.length : Int) = 0))
 (R (dB (decide ((a0.lits.length : Int) = 0))))
 (R (dB false)))
 (R (dB false)))
 (R (dB false)))
 (sel (decide (a0.kind = 5))
 (sel (decide ((a0.vars.length : Int) = 2))
 (sel (decide (1 ≤ (a0.consts.length : Int)))
 (sel (decide ((a0.rows.length : Int) = 0))
 (R (dB (decide ((a0.lits.length : Int) = 0))))
 (R (dB false)))
 (R (dB false)))
 (R (dB false)))
 (sel (decide (a0.kind = 6))
 (∃ n1_2, z0r a0 R n1_2 0)
 (sel (decide (a0.kind = 7))
 (sel (decide ((a0.vars.length : Int) = 3))
 (sel (decide ((a0.consts.length : Int) = 0))
 (sel (decide ((a0.rows.length : Int) = 0))
 (R (dB (decide ((a0.lits.length : Int) = 0))))
 (R (dB false)))
 (R (dB false)))
 (R (dB false)))
 (sel (decide (a0.kind = 8))
 (sel (decide (2 ≤ (a0.vars.length : Int)))
 (sel (decide ((a0.consts.length : Int) = 0))
 (sel (decide ((a0.rows.length : Int) = 0))
 (R (dB (decide ((a0.lits.length : Int) = 0))))
 (R (dB false)))
 (R (dB false)))
 (R (dB false)))
 (sel (decide (a0.kind = 9))
 (sel (decide ((a0.vars.length : Int) = 0))
 (sel (decide ((a0.consts.length : Int) = 0))
 (R (dB (decide ((a0.rows.length : Int) = 0))))
 (R (dB false)))
 (R (dB false)))
 (sel (decide ((a0.vars.length : Int) = 1))
 (sel (decide ((a0.consts.length : Int) = 0))
 (sel (decide ((a0.rows.length : Int) = 0))
 (R (dB (decide ((a0.lits.length : Int) = 1))))
 (R (dB false)))
 (R (dB false)))
 (R (dB false))))))))))))) := by kernel_rfl
theorem z2r (a0 : ConD) : SatI zBb Tryz.f67 zle [dC a0] := satD Tryz.func67 (by kernel_rfl) Tryz.ntmps67 rfl
def zzk : Ann := { own := [], live := [], n := 5, nils := [], pubs := [] }
theorem z3r (a0 : Int) (R : D → Prop) : FD zzk Tryz.f68 [dI a0] R =
 (Call1 Tryz.prog zA [dI a0, dI (-1000), dI 1000] .bool fun c1 =>
 R (dB c1)) := by kernel_rfl
theorem z4r (a0 : Int) : SatI zzk Tryz.f68 zWb [dI a0] := satD Tryz.func68 (by kernel_rfl) Tryz.ntmps68 rfl
def zAk : Ann := { own := [], live := [], n := 21, nils := [], pubs := [] }
theorem z5r (a0 : MdlD) (a1 : LitD) (R : D → Prop) : FD zAk Tryz.f69 [dM a0, dL a1] R =
 (Call1 Tryz.prog zA [dI a1.var, dI 0, dI (w64 ((a0.vars.length : Int) - 1))] .bool fun c1 =>
 sel (!c1)
 (R (dI 5))
 (Call1 Tryz.prog zA [dI a1.op, dI 1, dI 4] .bool fun c2 =>
 sel (!c2)
 (R (dI 7))
 (Call1 Tryz.prog zWb [dI a1.n] .bool fun c3 =>
 sel (!c3)
 (R (dI 3))
 (R (dI 0))))) := by kernel_rfl
theorem z6r (a0 : MdlD) (a1 : LitD) : SatI zAk Tryz.f69 zme [dM a0, dL a1] := satD Tryz.func69 (by kernel_rfl) Tryz.ntmps69 rfl
end Go.Proofs.YtajnbkhgnppckaaGreatDoor
