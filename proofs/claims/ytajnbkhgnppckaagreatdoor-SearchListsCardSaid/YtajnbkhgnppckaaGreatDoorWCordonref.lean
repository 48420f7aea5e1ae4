/- What the functions of a package do, as equations of plain propositions: printed by a program that carries the code out on symbols. -/
import Derived.Test.YtajnbkhgnppckaaGreatDoorWEv
namespace Go.Proofs.YtajnbkhgnppckaaGreatDoor
open Go.RowKit
set_option linter.unusedVariables false
set_option maxRecDepth 100000
def zQf : Ann := { own := [], live := [(0, ([0, 1, 5], []))], n := 26, nils := [], pubs := [] }
def zRf (a0 : List Int) (a1 : List Int) (R : D → Prop) (n0 : Nat) (i1 : Int) : Prop := LP zQf Tryz.f12 [1, 1, 0, 1, 0, 0] 0 n0 ⟨[(0, .sl .int a0), (1, .sl .int a1), (5, dI i1)], []⟩ (blockK 0 (sK zQf Tryz.f12 [1, 1, 1] 0 (eK Tryz.f12 R)))
theorem zJk (a0 : List Int) (a1 : List Int) (R : D → Prop) (n0 : Nat) (i1 : Int) : zRf a0 a1 R (n0 + 1) i1 =
 (sel (decide (i1 < (a0.length : Int)))
 (inb i1 a0.length = true ∧
 inb i1 a1.length = true ∧
 sel (!decide ((at' .int a0 i1.toNat) = (at' .int a1 i1.toNat)))
 (R (dB false))
 (zRf a0 a1 R n0 (w64 (i1 + 1))))
 (R (dB true))) := by kernel_rfl
theorem zps (a0 : List Int) (a1 : List Int) (R : D → Prop) : FD zQf Tryz.f12 [.sl .int a0, .sl .int a1] R =
 (sel (!decide ((a0.length : Int) = (a1.length : Int)))
 (R (dB false))
 (∃ n0, zRf a0 a1 R n0 0)) := by kernel_rfl
theorem zqs (a0 : List Int) (a1 : List Int) : SatI zQf Tryz.f12 z4c [.sl .int a0, .sl .int a1] := satD Tryz.func12 (by kernel_rfl) Tryz.ntmps12 rfl
def zW : Ann := { own := [5], live := [(0, ([1, 3, 4], [])), (2, ([1, 3, 4, 5, 6], [5])), (4, ([1, 3, 7], []))], n := 114, nils := [], pubs := [] }
def zSf (a0 : MdlD) (R : D → Prop) (n0 : Nat) (v1 : Int) (n2 : Nat) (v3 : Int) : Prop := LP zW Tryz.f15 [1, 1, 1, 1, 0, 1, 0, 0, 1, 0, 0, 1, 1, 0, 1, 0, 0] 2 n2 ⟨[(1, .iptr [.sl .var a0.vars, .sl .con a0.cons, dI a0.goal, dI a0.var] 0), (3, dI (a0.vars.length : Int)), (4, dI v1), (5, .ptr 5 0), (6, dI v3)], [(5, .cells [.str ((at' .var a0.vars v1.toNat).name), dI ((at' .var a0.vars v1.toNat).lo), dI ((at' .var a0.vars v1.toNat).hi)])]⟩ (blockK 2 (sK zW Tryz.f15 [1, 1, 1, 1, 0, 1, 0, 0, 1, 0, 0, 1, 1, 1] 1 (blockK 1 (sK zW Tryz.f15 [1, 1, 1, 1, 0, 1, 0, 0, 1, 1] 0 (iK zW Tryz.f15 [1, 1, 1, 1, 0, 1, 0, 0] 0 n0 (blockK 0 (sK zW Tryz.f15 [1, 1, 1, 1, 1] 0 (eK Tryz.f15 R))))))))
def zTf (a0 : MdlD) (R : D → Prop) (n4 : Nat) (v6 : Int) : Prop := LP zW Tryz.f15 [1, 1, 1, 1, 1, 0, 1, 0, 0] 4 n4 ⟨[(1, .iptr [.sl .var a0.vars, .sl .con a0.cons, dI a0.goal, dI a0.var] 0), (3, dI (a0.vars.length : Int)), (7, dI v6)], []⟩ (blockK 4 (sK zW Tryz.f15 [1, 1, 1, 1, 1, 1] 0 (eK Tryz.f15 R)))
def zUf (a0 : MdlD) (R : D → Prop) (n0 : Nat) (v1 : Int) : Prop := LP zW Tryz.f15 [1, 1, 1, 1, 0, 1, 0, 0] 0 n0 ⟨[(1, .iptr [.sl .var a0.vars, .sl .con a0.cons, dI a0.goal, dI a0.var] 0), (3, dI (a0.vars.length : Int)), (4, dI v1)], []⟩ (blockK 0 (sK zW Tryz.f15 [1, 1, 1, 1, 1] 0 (eK Tryz.f15 R)))
theorem zKk (a0 : MdlD) (R : D → Prop) (n0 : Nat) (v1 : Int) (n2 : Nat) (v3 : Int) : zSf a0 R n0 v1 (n2 + 1) v3 =
 (sel (decide (v3 < v1))
 (inb v3 a0.vars.length = true ∧
 sel (decide (((at' .var a0.vars v3.toNat).name) = ((at' .var a0.vars v1.toNat).name)))
 (R (dI 6))
 (zSf a0 R n0 v1 n2 (w64 (v3 + 1))))
 (Call1 Tryz.prog zA [dI ((at' .var a0.vars v1.toNat).lo), dI (-50), dI 50] .bool fun c4 =>
 sel (!c4)
 (R (dI 3))
 (Call1 Tryz.prog zA [dI ((at' .var a0.vars v1.toNat).hi), dI (-50), dI 50] .bool fun c5 =>
 sel (!c5)
 (R (dI 3))
 (sel (decide (((at' .var a0.vars v1.toNat).hi) < ((at' .var a0.vars v1.toNat).lo)))
 (R (dI 3))
 (sel (decide (6 < (w64 ((w64 (((at' .var a0.vars v1.toNat).hi) - ((at' .var a0.vars v1.toNat).lo))) + 1))))
 (R (dI 2))
 (zUf a0 R n0 (w64 (v1 + 1)))))))) := by kernel_rfl
theorem zLk (a0 : MdlD) (R : D → Prop) (n4 : Nat) (v6 : Int) : zTf a0 R (n4 + 1) v6 =
 (sel (decide (v6 < (a0.cons.length : Int)))
 (inb v6 a0.cons.length = true ∧
 Call1 Tryz.prog zpe [dM a0, dC (at' .con a0.cons v6.toNat)] .int fun c7 =>
 sel (!decide (c7 = 0))
 (R (dI c7))
 (zTf a0 R n4 (w64 (v6 + 1))))
 (Call1 Tryz.prog zA [dI a0.goal, dI 0, dI 2] .bool fun c8 =>
 sel (!c8)
 (R (dI 7))
 (sel (decide (a0.goal = 0))
 (sel (!decide (a0.var = 0))
 (R (dI 1))
 (sel (!decide (a0.goal = 0))
 (Call1 Tryz.prog zA [dI a0.var, dI 0, dI (w64 ((a0.vars.length : Int) - 1))] .bool fun c9 =>
 sel (!c9)
 (R (dI 5))
 (R (dI 0)))
 (R (dI 0))))
 (sel (!decide (a0.goal = 0))
 (Call1 Tryz.prog zA [dI a0.var, dI 0, dI (w64 ((a0.vars.length : Int) - 1))] .bool fun c10 =>
 sel (!c10)
 (R (dI 5))
 (R (dI 0)))
 (R (dI 0)))))) := by kernel_rfl
theorem zMk (a0 : MdlD) (R : D → Prop) (n0 : Nat) (v1 : Int) : zUf a0 R (n0 + 1) v1 =
 (sel (decide (v1 < (a0.vars.length : Int)))
 (inb v1 a0.vars.length = true ∧
 Call1 Tryz.prog zNh [.str ((at' .var a0.vars v1.toNat).name)] .bool fun c2 =>
 sel (!c2)
 (R (dI 1))
 (∃ n2, zSf a0 R n0 v1 n2 0))
 (∃ n4, zTf a0 R n4 0)) := by kernel_rfl
theorem zrs (a0 : MdlD) (R : D → Prop) : FD zW Tryz.f15 [dM a0] R =
 (sel (decide ((a0.vars.length : Int) = 0))
 (R (dI 1))
 (sel (decide (6 < (a0.vars.length : Int)))
 (R (dI 2))
 (sel (decide (8 < (a0.cons.length : Int)))
 (R (dI 2))
 (∃ n0, zUf a0 R n0 0)))) := by kernel_rfl
theorem zss (a0 : MdlD) : SatI zW Tryz.f15 zie [dM a0] := satD Tryz.func15 (by kernel_rfl) Tryz.ntmps15 rfl
def zX : Ann := { own := [8, 13, 38, 40, 42], live := [(0, ([1, 2, 6, 7], [13])), (2, ([1, 2, 6, 8], [8, 13])), (4, ([1, 2, 6, 8, 9], [8, 13]))], n := 81, nils := [], pubs := [] }
def zVf (a0 : MdlD) (a1 : Int) (R : D → Prop) (n2 : Nat) (n4 : Nat) (v6 : Int) (l7 : List (List Int)) (l8 : List Int) : Prop := LP zX Tryz.f16 [1, 1, 1, 1, 0, 0, 0, 1, 1, 0, 0, 0] 4 n4 ⟨[(1, dI a1), (2, .iptr [.sl .var a0.vars, .sl .con a0.cons, dI a0.goal, dI a0.var] 0), (6, .own 13), (8, .own 8), (9, dI v6)], [(8, .row 26 (.list .int) l7), (13, .row 3 .int l8)]⟩ (blockK 4 (sK zX Tryz.f16 [1, 1, 1, 1, 0, 0, 0, 1, 1, 1] 3 (blockK 3 (iK zX Tryz.f16 [1, 1, 1, 1, 0, 0] 2 n2 (blockK 2 (eK Tryz.f16 R))))))
def zWf (a0 : MdlD) (a1 : Int) (R : D → Prop) (n2 : Nat) (n4_2 : Nat) (v9 : Int) (l10 : List (List Int)) (l11 : List Int) : Prop := LP zX Tryz.f16 [1, 1, 1, 1, 0, 0, 0, 1, 1, 0, 0, 0] 4 n4_2 ⟨[(1, dI a1), (2, .iptr [.sl .var a0.vars, .sl .con a0.cons, dI a0.goal, dI a0.var] 0), (6, .own 13), (8, .own 8), (9, dI v9)], [(8, .row 26 (.list .int) l10), (13, .row 3 .int l11)]⟩ (blockK 4 (sK zX Tryz.f16 [1, 1, 1, 1, 0, 0, 0, 1, 1, 1] 3 (blockK 3 (iK zX Tryz.f16 [1, 1, 1, 1, 0, 0] 2 n2 (blockK 2 (eK Tryz.f16 R))))))
def zFb (a0 : MdlD) (a1 : Int) (R : D → Prop) (n2 : Nat) (l3 : List (List Int)) (l4 : List Int) : Prop := LP zX Tryz.f16 [1, 1, 1, 1, 0, 0] 2 n2 ⟨[(1, dI a1), (2, .iptr [.sl .var a0.vars, .sl .con a0.cons, dI a0.goal, dI a0.var] 0), (6, .own 13), (8, .own 8)], [(8, .row 26 (.list .int) l3), (13, .row 3 .int l4)]⟩ (blockK 2 (eK Tryz.f16 R))
def zXf (a0 : MdlD) (a1 : Int) (R : D → Prop) (n0 : Nat) (v1 : Int) (l2 : List Int) : Prop := LP zX Tryz.f16 [1, 1, 0, 1, 0, 0] 0 n0 ⟨[(1, dI a1), (2, .iptr [.sl .var a0.vars, .sl .con a0.cons, dI a0.goal, dI a0.var] 0), (6, .own 13), (7, dI v1)], [(13, .row 3 .int l2)]⟩ (blockK 0 (sK zX Tryz.f16 [1, 1, 1] 0 (eK Tryz.f16 R)))
theorem zts (a0 : MdlD) (a1 : Int) (R : D → Prop) (n2 : Nat) (n4 : Nat) (v6 : Int) (l7 : List (List Int)) (l8 : List Int) : zVf a0 a1 R n2 (n4 + 1) v6 l7 l8 =
 (sel (decide (0 ≤ v6))
 (inb v6 l8.length = true ∧
 inb v6 a0.vars.length = true ∧
 sel (decide ((at' .int l8 v6.toNat) = ((at' .var a0.vars v6.toNat).hi)))
 (inb v6 a0.vars.length = true ∧
 inb v6 l8.length = true ∧
 zVf a0 a1 R n2 n4 (w64 (v6 - 1)) l7 (l8.set v6.toNat ((at' .var a0.vars v6.toNat).lo)))
 (sel (decide (v6 < 0))
 (R (.tup [dS l7, dB true]))
 (inb v6 l8.length = true ∧
 inb v6 l8.length = true ∧
 zFb a0 a1 R n2 l7 (l8.set v6.toNat (w64 ((at' .int l8 v6.toNat) + 1))))))
 (sel (decide (v6 < 0))
 (R (.tup [dS l7, dB true]))
 (inb v6 l8.length = true ∧
 inb v6 l8.length = true ∧
 zFb a0 a1 R n2 l7 (l8.set v6.toNat (w64 ((at' .int l8 v6.toNat) + 1)))))) := by kernel_rfl
theorem zus (a0 : MdlD) (a1 : Int) (R : D → Prop) (n2 : Nat) (n4_2 : Nat) (v9 : Int) (l10 : List (List Int)) (l11 : List Int) : zWf a0 a1 R n2 (n4_2 + 1) v9 l10 l11 =
 (sel (decide (0 ≤ v9))
 (inb v9 l11.length = true ∧
 inb v9 a0.vars.length = true ∧
 sel (decide ((at' .int l11 v9.toNat) = ((at' .var a0.vars v9.toNat).hi)))
 (inb v9 a0.vars.length = true ∧
 inb v9 l11.length = true ∧
 zWf a0 a1 R n2 n4_2 (w64 (v9 - 1)) l10 (l11.set v9.toNat ((at' .var a0.vars v9.toNat).lo)))
 (sel (decide (v9 < 0))
 (R (.tup [dS l10, dB true]))
 (inb v9 l11.length = true ∧
 inb v9 l11.length = true ∧
 zFb a0 a1 R n2 l10 (l11.set v9.toNat (w64 ((at' .int l11 v9.toNat) + 1))))))
 (sel (decide (v9 < 0))
 (R (.tup [dS l10, dB true]))
 (inb v9 l11.length = true ∧
 inb v9 l11.length = true ∧
 zFb a0 a1 R n2 l10 (l11.set v9.toNat (w64 ((at' .int l11 v9.toNat) + 1)))))) := by kernel_rfl
theorem zZh (a0 : MdlD) (a1 : Int) (R : D → Prop) (n2 : Nat) (l3 : List (List Int)) (l4 : List Int) : zFb a0 a1 R (n2 + 1) l3 l4 =
 (Call1 Tryz.prog zke [dM a0, .sl .int l4] .bool fun c5 =>
 sel c5
 (sel (decide ((l3.length : Int) = a1))
 (R (.tup [dS l3, dB false]))
 (room .int (([] : List Int).length + l4.length) = true ∧
 room (.list .int) (l3.length + ([([] : List Int) ++ l4]).length) = true ∧
 ∃ n4, zVf a0 a1 R n2 n4 (w64 ((l4.length : Int) - 1)) (l3 ++ ([([] : List Int) ++ l4])) l4))
 (∃ n4_2, zWf a0 a1 R n2 n4_2 (w64 ((l4.length : Int) - 1)) l3 l4)) := by kernel_rfl
theorem zvs (a0 : MdlD) (a1 : Int) (R : D → Prop) (n0 : Nat) (v1 : Int) (l2 : List Int) : zXf a0 a1 R (n0 + 1) v1 l2 =
 (sel (decide (v1 < (l2.length : Int)))
 (inb v1 a0.vars.length = true ∧
 inb v1 l2.length = true ∧
 zXf a0 a1 R n0 (w64 (v1 + 1)) (l2.set v1.toNat ((at' .var a0.vars v1.toNat).lo)))
 (∃ n2, zFb a0 a1 R n2 ([] : List (List Int)) l2)) := by kernel_rfl
theorem zws (a0 : MdlD) (a1 : Int) (R : D → Prop) : FD zX Tryz.f16 [dM a0, dI a1] R =
 ((a0.vars.length : Int) = (a0.vars.length : Int) ∧
 0 ≤ (a0.vars.length : Int) ∧
 room .int ((a0.vars.length : Int).toNat) = true ∧
 ∃ n0, zXf a0 a1 R n0 0 (List.replicate ((a0.vars.length : Int).toNat) (Ty.dflt .int))) := by kernel_rfl
theorem zxs (a0 : MdlD) (a1 : Int) : SatI zX Tryz.f16 zje [dM a0, dI a1] := satD Tryz.func16 (by kernel_rfl) Tryz.ntmps16 rfl
def zYf : Ann := { own := [], live := [(0, ([0, 1, 5], []))], n := 27, nils := [], pubs := [] }
def zZf (a0 : List (List Int)) (a1 : List (List Int)) (R : D → Prop) (n0 : Nat) (i1 : Int) : Prop := LP zYf Tryz.f17 [1, 1, 0, 1, 0, 0] 0 n0 ⟨[(0, dS a0), (1, dS a1), (5, dI i1)], []⟩ (blockK 0 (sK zYf Tryz.f17 [1, 1, 1] 0 (eK Tryz.f17 R)))
theorem zNk (a0 : List (List Int)) (a1 : List (List Int)) (R : D → Prop) (n0 : Nat) (i1 : Int) : zZf a0 a1 R (n0 + 1) i1 =
 (sel (decide (i1 < (a0.length : Int)))
 (inb i1 a0.length = true ∧
 inb i1 a1.length = true ∧
 Call1 Tryz.prog z4c [.sl .int (at' (.list .int) a0 i1.toNat), .sl .int (at' (.list .int) a1 i1.toNat)] .bool fun c2 =>
 sel (!c2)
 (R (dB false))
 (zZf a0 a1 R n0 (w64 (i1 + 1))))
 (R (dB true))) := by kernel_rfl
theorem zys (a0 : List (List Int)) (a1 : List (List Int)) (R : D → Prop) : FD zYf Tryz.f17 [dS a0, dS a1] R =
 (sel (!decide ((a0.length : Int) = (a1.length : Int)))
 (R (dB false))
 (∃ n0, zZf a0 a1 R n0 0)) := by kernel_rfl
theorem zzs (a0 : List (List Int)) (a1 : List (List Int)) : SatI zYf Tryz.f17 z1b [dS a0, dS a1] := satD Tryz.func17 (by kernel_rfl) Tryz.ntmps17 rfl
def zDc : Ann := { own := [], live := [(0, ([1, 2, 5], [])), (2, ([1, 2, 6], []))], n := 47, nils := [], pubs := [] }
def z0f (a0 : MdlD) (a1 : List Int) (R : D → Prop) (n2 : Nat) (i3 : Int) : Prop := LP zDc Tryz.f25 [1, 1, 0, 1, 0, 0] 2 n2 ⟨[(1, .sl .int a1), (2, .iptr [.sl .var a0.vars, .sl .con a0.cons, dI a0.goal, dI a0.var] 0), (6, dI i3)], []⟩ (blockK 2 (sK zDc Tryz.f25 [1, 1, 1] 0 (eK Tryz.f25 R)))
def z1f (a0 : MdlD) (a1 : List Int) (R : D → Prop) (n0 : Nat) (i1 : Int) : Prop := LP zDc Tryz.f25 [1, 0, 1, 0, 0] 0 n0 ⟨[(1, .sl .int a1), (2, .iptr [.sl .var a0.vars, .sl .con a0.cons, dI a0.goal, dI a0.var] 0), (5, dI i1)], []⟩ (blockK 0 (sK zDc Tryz.f25 [1, 1] 0 (eK Tryz.f25 R)))
theorem zOk (a0 : MdlD) (a1 : List Int) (R : D → Prop) (n2 : Nat) (i3 : Int) : z0f a0 a1 R (n2 + 1) i3 =
 (sel (decide (i3 < (a0.cons.length : Int)))
 (inb i3 a0.cons.length = true ∧
 Call1 Tryz.prog zqe [dC (at' .con a0.cons i3.toNat), .sl .int a1] .bool fun c4 =>
 sel (!c4)
 (R (dB false))
 (z0f a0 a1 R n2 (w64 (i3 + 1))))
 (R (dB true))) := by kernel_rfl
theorem zPk (a0 : MdlD) (a1 : List Int) (R : D → Prop) (n0 : Nat) (i1 : Int) : z1f a0 a1 R (n0 + 1) i1 =
 (sel (decide (i1 < (a0.vars.length : Int)))
 (inb i1 a1.length = true ∧
 inb i1 a0.vars.length = true ∧
 inb i1 a0.vars.length = true ∧
 Call1 Tryz.prog zA [dI (at' .int a1 i1.toNat), dI ((at' .var a0.vars i1.toNat).lo), dI ((at' .var a0.vars i1.toNat).hi)] .bool fun c2 =>
 sel (!c2)
 (R (dB false))
 (z1f a0 a1 R n0 (w64 (i1 + 1))))
 (∃ n2, z0f a0 a1 R n2 0)) := by kernel_rfl
theorem zAs (a0 : MdlD) (a1 : List Int) (R : D → Prop) : FD zDc Tryz.f25 [dM a0, .sl .int a1] R =
 (∃ n0, z1f a0 a1 R n0 0) := by kernel_rfl
theorem zCs (a0 : MdlD) (a1 : List Int) : SatI zDc Tryz.f25 zke [dM a0, .sl .int a1] := satD Tryz.func25 (by kernel_rfl) Tryz.ntmps25 rfl
def zQk : Ann := { own := [], live := [], n := 15, nils := [], pubs := [] }
theorem zDs (a0 : Int) (a1 : Int) (a2 : Int) (R : D → Prop) : FD zQk Tryz.f40 [dI a0, dI a1, dI a2] R =
 (sel (decide (a1 ≤ a0))
 (R (dB (decide (a0 ≤ a2))))
 (R (dB false))) := by kernel_rfl
theorem zEs (a0 : Int) (a1 : Int) (a2 : Int) : SatI zQk Tryz.f40 zA [dI a0, dI a1, dI a2] := satD Tryz.func40 (by kernel_rfl) Tryz.ntmps40 rfl
def zw : Ann := { own := [], live := [(0, ([2, 3, 5], [])), (2, ([2, 3, 6], [])), (4, ([2, 3, 7], [])), (6, ([2, 3, 8], [])), (8, ([2, 3, 8, 9], [])), (10, ([2, 3, 10], []))], n := 140, nils := [], pubs := [] }
def z2f (a0 : MdlD) (a1 : ConD) (R : D → Prop) (n6 : Nat) (v10 : Int) (n8 : Nat) (v11 : Int) : Prop := LP zw Tryz.f41 [1, 1, 1, 1, 1, 1, 1, 1, 0, 1, 0, 0, 1, 0, 0, 1, 0, 0] 8 n8 ⟨[(2, .iptr [.sl .var a0.vars, .sl .con a0.cons, dI a0.goal, dI a0.var] 0), (3, .iptr [dI a1.kind, .sl .int a1.vars, .sl .int a1.consts, dI a1.n, dS a1.rows, .sl .lit a1.lits] 0), (8, dI v10), (9, dI v11)], []⟩ (blockK 8 (blockK 7 (sK zw Tryz.f41 [1, 1, 1, 1, 1, 1, 1, 1, 0, 1, 0, 0, 1, 1] 6 (iK zw Tryz.f41 [1, 1, 1, 1, 1, 1, 1, 1, 0, 1, 0, 0] 6 n6 (blockK 6 (sK zw Tryz.f41 [1, 1, 1, 1, 1, 1, 1, 1, 1] 0 (eK Tryz.f41 R)))))))
def z3f (a0 : MdlD) (a1 : ConD) (R : D → Prop) (n10 : Nat) (v13 : Int) : Prop := LP zw Tryz.f41 [1, 1, 1, 1, 1, 1, 1, 1, 1, 0, 1, 0, 0] 10 n10 ⟨[(2, .iptr [.sl .var a0.vars, .sl .con a0.cons, dI a0.goal, dI a0.var] 0), (3, .iptr [dI a1.kind, .sl .int a1.vars, .sl .int a1.consts, dI a1.n, dS a1.rows, .sl .lit a1.lits] 0), (10, dI v13)], []⟩ (blockK 10 (sK zw Tryz.f41 [1, 1, 1, 1, 1, 1, 1, 1, 1, 1] 0 (eK Tryz.f41 R)))
def z4f (a0 : MdlD) (a1 : ConD) (R : D → Prop) (n6 : Nat) (v10 : Int) : Prop := LP zw Tryz.f41 [1, 1, 1, 1, 1, 1, 1, 1, 0, 1, 0, 0] 6 n6 ⟨[(2, .iptr [.sl .var a0.vars, .sl .con a0.cons, dI a0.goal, dI a0.var] 0), (3, .iptr [dI a1.kind, .sl .int a1.vars, .sl .int a1.consts, dI a1.n, dS a1.rows, .sl .lit a1.lits] 0), (8, dI v10)], []⟩ (blockK 6 (sK zw Tryz.f41 [1, 1, 1, 1, 1, 1, 1, 1, 1] 0 (eK Tryz.f41 R)))
def z5f (a0 : MdlD) (a1 : ConD) (R : D → Prop) (n4 : Nat) (v7 : Int) : Prop := LP zw Tryz.f41 [1, 1, 1, 1, 1, 1, 0, 1, 0, 0] 4 n4 ⟨[(2, .iptr [.sl .var a0.vars, .sl .con a0.cons, dI a0.goal, dI a0.var] 0), (3, .iptr [dI a1.kind, .sl .int a1.vars, .sl .int a1.consts, dI a1.n, dS a1.rows, .sl .lit a1.lits] 0), (7, dI v7)], []⟩ (blockK 4 (sK zw Tryz.f41 [1, 1, 1, 1, 1, 1, 1] 0 (eK Tryz.f41 R)))
def z6f (a0 : MdlD) (a1 : ConD) (R : D → Prop) (n2 : Nat) (v5 : Int) : Prop := LP zw Tryz.f41 [1, 1, 1, 1, 1, 0, 1, 0, 0] 2 n2 ⟨[(2, .iptr [.sl .var a0.vars, .sl .con a0.cons, dI a0.goal, dI a0.var] 0), (3, .iptr [dI a1.kind, .sl .int a1.vars, .sl .int a1.consts, dI a1.n, dS a1.rows, .sl .lit a1.lits] 0), (6, dI v5)], []⟩ (blockK 2 (sK zw Tryz.f41 [1, 1, 1, 1, 1, 1] 0 (eK Tryz.f41 R)))
def z7f (a0 : MdlD) (a1 : ConD) (R : D → Prop) (n0 : Nat) (v3 : Int) : Prop := LP zw Tryz.f41 [1, 1, 1, 1, 0, 1, 0, 0] 0 n0 ⟨[(2, .iptr [.sl .var a0.vars, .sl .con a0.cons, dI a0.goal, dI a0.var] 0), (3, .iptr [dI a1.kind, .sl .int a1.vars, .sl .int a1.consts, dI a1.n, dS a1.rows, .sl .lit a1.lits] 0), (5, dI v3)], []⟩ (blockK 0 (sK zw Tryz.f41 [1, 1, 1, 1, 1] 0 (eK Tryz.f41 R)))
theorem zRk (a0 : MdlD) (a1 : ConD) (R : D → Prop) (n6 : Nat) (v10 : Int) (n8 : Nat) (v11 : Int) : z2f a0 a1 R n6 v10 (n8 + 1) v11 =
 (inb v10 a1.rows.length = true ∧
 sel (decide (v11 < ((at' (.list .int) a1.rows v10.toNat).length : Int)))
 (inb v10 a1.rows.length = true ∧
 inb v11 (at' (.list .int) a1.rows v10.toNat).length = true ∧
 Call1 Tryz.prog z2b [dI (at' .int (at' (.list .int) a1.rows v10.toNat) v11.toNat)] .bool fun c12 =>
 sel (!c12)
 (R (dI 3))
 (z2f a0 a1 R n6 v10 n8 (w64 (v11 + 1))))
 (z4f a0 a1 R n6 (w64 (v10 + 1)))) := by kernel_rfl
theorem zSk (a0 : MdlD) (a1 : ConD) (R : D → Prop) (n10 : Nat) (v13 : Int) : z3f a0 a1 R (n10 + 1) v13 =
 (sel (decide (v13 < (a1.lits.length : Int)))
 (inb v13 a1.lits.length = true ∧
 Call1 Tryz.prog zze [dM a0, dL (at' .lit a1.lits v13.toNat)] .int fun c14 =>
 sel (!decide (c14 = 0))
 (R (dI c14))
 (z3f a0 a1 R n10 (w64 (v13 + 1))))
 (R (dI 0))) := by kernel_rfl
theorem zTk (a0 : MdlD) (a1 : ConD) (R : D → Prop) (n6 : Nat) (v10 : Int) : z4f a0 a1 R (n6 + 1) v10 =
 (sel (decide (v10 < (a1.rows.length : Int)))
 (∃ n8, z2f a0 a1 R n6 v10 n8 0)
 (∃ n10, z3f a0 a1 R n10 0)) := by kernel_rfl
theorem zUk (a0 : MdlD) (a1 : ConD) (R : D → Prop) (n4 : Nat) (v7 : Int) : z5f a0 a1 R (n4 + 1) v7 =
 (sel (decide (v7 < (a1.consts.length : Int)))
 (inb v7 a1.consts.length = true ∧
 Call1 Tryz.prog z2b [dI (at' .int a1.consts v7.toNat)] .bool fun c8 =>
 sel (!c8)
 (R (dI 3))
 (z5f a0 a1 R n4 (w64 (v7 + 1))))
 (Call1 Tryz.prog z2b [dI a1.n] .bool fun c9 =>
 sel (!c9)
 (R (dI 3))
 (∃ n6, z4f a0 a1 R n6 0))) := by kernel_rfl
theorem zVk (a0 : MdlD) (a1 : ConD) (R : D → Prop) (n2 : Nat) (v5 : Int) : z6f a0 a1 R (n2 + 1) v5 =
 (sel (decide (v5 < (a1.lits.length : Int)))
 (inb v5 a1.lits.length = true ∧
 Call1 Tryz.prog zA [dI ((at' .lit a1.lits v5.toNat).var), dI 0, dI (w64 ((a0.vars.length : Int) - 1))] .bool fun c6 =>
 sel (!c6)
 (R (dI 5))
 (z6f a0 a1 R n2 (w64 (v5 + 1))))
 (∃ n4, z5f a0 a1 R n4 0)) := by kernel_rfl
theorem zWk (a0 : MdlD) (a1 : ConD) (R : D → Prop) (n0 : Nat) (v3 : Int) : z7f a0 a1 R (n0 + 1) v3 =
 (sel (decide (v3 < (a1.vars.length : Int)))
 (inb v3 a1.vars.length = true ∧
 Call1 Tryz.prog zA [dI (at' .int a1.vars v3.toNat), dI 0, dI (w64 ((a0.vars.length : Int) - 1))] .bool fun c4 =>
 sel (!c4)
 (R (dI 5))
 (z7f a0 a1 R n0 (w64 (v3 + 1))))
 (∃ n2, z6f a0 a1 R n2 0)) := by kernel_rfl
theorem zFs (a0 : MdlD) (a1 : ConD) (R : D → Prop) : FD zw Tryz.f41 [dM a0, dC a1] R =
 (Call1 Tryz.prog zA [dI a1.kind, dI 1, dI 10] .bool fun c1 =>
 sel (!c1)
 (R (dI 7))
 (sel (decide (4 < (a1.vars.length : Int)))
 (R (dI 2))
 (sel (decide (4 < (a1.lits.length : Int)))
 (R (dI 2))
 (sel (decide (8 < (a1.consts.length : Int)))
 (R (dI 2))
 (sel (decide (20 < (a1.rows.length : Int)))
 (R (dI 2))
 (Call1 Tryz.prog zye [dC a1] .bool fun c2 =>
 sel (!c2)
 (R (dI 1))
 (∃ n0, z7f a0 a1 R n0 0))))))) := by kernel_rfl
theorem zGs (a0 : MdlD) (a1 : ConD) : SatI zw Tryz.f41 zpe [dM a0, dC a1] := satD Tryz.func41 (by kernel_rfl) Tryz.ntmps41 rfl
def zc : Ann := { own := [5, 33], live := [(0, ([1, 2, 5, 6], [5])), (2, ([1, 2, 5, 7, 8], [5])), (5, ([5, 9], [5])), (7, ([5, 9, 10], [5])), (9, ([2, 5, 11], [5])), (11, ([2, 5, 12], [5])), (13, ([5, 13, 14], [5])), (15, ([1, 2, 15], []))], n := 222, nils := [], pubs := [] }
def zHs (R : D → Prop) (l2 : List Int) (n5 : Nat) (v5 : Int) : Prop := LP zc Tryz.f44 [1, 1, 1, 1, 1, 0, 1, 0, 1, 1, 1, 1, 1, 1, 1, 0, 0, 1, 0, 0] 5 n5 ⟨[(5, .own 5), (9, dI v5)], [(5, .row 3 .int l2)]⟩ (blockK 5 (sK zc Tryz.f44 [1, 1, 1, 1, 1, 0, 1, 0, 1, 1, 1, 1, 1, 1, 1, 0, 1] 4 (blockK 4 (sK zc Tryz.f44 [1, 1, 1, 1, 1, 1] 0 (eK Tryz.f44 R)))))
def zIs (a0 : ConD) (R : D → Prop) (l2 : List Int) (n9 : Nat) (v7 : Int) : Prop := LP zc Tryz.f44 [1, 1, 1, 1, 1, 0, 1, 0, 1, 1, 1, 1, 1, 1, 1, 1, 1, 0, 0, 1, 0, 0] 9 n9 ⟨[(2, .iptr [dI a0.kind, .sl .int a0.vars, .sl .int a0.consts, dI a0.n, dS a0.rows, .sl .lit a0.lits] 0), (5, .own 5), (11, dI v7)], [(5, .row 3 .int l2)]⟩ (blockK 9 (sK zc Tryz.f44 [1, 1, 1, 1, 1, 0, 1, 0, 1, 1, 1, 1, 1, 1, 1, 1, 1, 0, 1] 4 (blockK 4 (sK zc Tryz.f44 [1, 1, 1, 1, 1, 1] 0 (eK Tryz.f44 R)))))
def zJs (a0 : ConD) (R : D → Prop) (l2 : List Int) (n11 : Nat) (v8 : Int) : Prop := LP zc Tryz.f44 [1, 1, 1, 1, 1, 0, 1, 0, 1, 1, 1, 1, 1, 1, 1, 1, 1, 1, 1, 0, 0, 1, 0, 0] 11 n11 ⟨[(2, .iptr [dI a0.kind, .sl .int a0.vars, .sl .int a0.consts, dI a0.n, dS a0.rows, .sl .lit a0.lits] 0), (5, .own 5), (12, dI v8)], [(5, .row 3 .int l2)]⟩ (blockK 11 (sK zc Tryz.f44 [1, 1, 1, 1, 1, 0, 1, 0, 1, 1, 1, 1, 1, 1, 1, 1, 1, 1, 1, 0, 1] 4 (blockK 4 (sK zc Tryz.f44 [1, 1, 1, 1, 1, 1] 0 (eK Tryz.f44 R)))))
def zKs (R : D → Prop) (l2 : List Int) (n13 : Nat) (v10 : Bool) (v11 : Int) : Prop := LP zc Tryz.f44 [1, 1, 1, 1, 1, 0, 1, 0, 1, 1, 1, 1, 1, 1, 1, 1, 1, 1, 1, 1, 1, 1, 1, 0, 1, 0, 1, 0, 0] 13 n13 ⟨[(5, .own 5), (13, dB v10), (14, dI v11)], [(5, .row 3 .int l2)]⟩ (blockK 13 (sK zc Tryz.f44 [1, 1, 1, 1, 1, 0, 1, 0, 1, 1, 1, 1, 1, 1, 1, 1, 1, 1, 1, 1, 1, 1, 1, 0, 1, 1] 4 (blockK 4 (sK zc Tryz.f44 [1, 1, 1, 1, 1, 1] 0 (eK Tryz.f44 R)))))
def zLs (a0 : ConD) (a1 : List Int) (R : D → Prop) (n15 : Nat) (v12 : Int) : Prop := LP zc Tryz.f44 [1, 1, 1, 1, 1, 0, 1, 0, 1, 1, 1, 1, 1, 1, 1, 1, 1, 1, 1, 1, 1, 1, 1, 1, 1, 0, 0, 1, 0, 0] 15 n15 ⟨[(1, .sl .int a1), (2, .iptr [dI a0.kind, .sl .int a0.vars, .sl .int a0.consts, dI a0.n, dS a0.rows, .sl .lit a0.lits] 0), (15, dI v12)], []⟩ (blockK 15 (sK zc Tryz.f44 [1, 1, 1, 1, 1, 0, 1, 0, 1, 1, 1, 1, 1, 1, 1, 1, 1, 1, 1, 1, 1, 1, 1, 1, 1, 0, 1] 4 (blockK 4 (sK zc Tryz.f44 [1, 1, 1, 1, 1, 1] 0 (eK Tryz.f44 R)))))
def z8f (a0 : ConD) (a1 : List Int) (R : D → Prop) (l2 : List Int) (n2 : Nat) (v3 : Int) (v4 : Int) : Prop := LP zc Tryz.f44 [1, 1, 1, 1, 0, 1, 0, 1, 0, 0] 2 n2 ⟨[(1, .sl .int a1), (2, .iptr [dI a0.kind, .sl .int a0.vars, .sl .int a0.consts, dI a0.n, dS a0.rows, .sl .lit a0.lits] 0), (5, .own 5), (7, dI v3), (8, dI v4)], [(5, .row 3 .int l2)]⟩ (blockK 2 (sK zc Tryz.f44 [1, 1, 1, 1, 1] 0 (eK Tryz.f44 R)))
def z9f (R : D → Prop) (l2 : List Int) (n5_2 : Nat) (v15 : Int) (n7_2 : Nat) (v16 : Int) : Prop := LP zc Tryz.f44 [1, 1, 1, 1, 1, 0, 1, 0, 1, 1, 1, 1, 1, 1, 1, 0, 0, 1, 0, 0, 1, 0, 0, 1, 0, 0] 7 n7_2 ⟨[(5, .own 5), (9, dI v15), (10, dI v16)], [(5, .row 3 .int l2)]⟩ (blockK 7 (blockK 6 (sK zc Tryz.f44 [1, 1, 1, 1, 1, 0, 1, 0, 1, 1, 1, 1, 1, 1, 1, 0, 0, 1, 0, 0, 1, 1] 5 (iK zc Tryz.f44 [1, 1, 1, 1, 1, 0, 1, 0, 1, 1, 1, 1, 1, 1, 1, 0, 0, 1, 0, 0] 5 n5_2 (blockK 5 (sK zc Tryz.f44 [1, 1, 1, 1, 1, 0, 1, 0, 1, 1, 1, 1, 1, 1, 1, 0, 1] 4 (blockK 4 (sK zc Tryz.f44 [1, 1, 1, 1, 1, 1] 0 (eK Tryz.f44 R)))))))))
def zag (R : D → Prop) (l2 : List Int) (n5_2 : Nat) (v15 : Int) : Prop := LP zc Tryz.f44 [1, 1, 1, 1, 1, 0, 1, 0, 1, 1, 1, 1, 1, 1, 1, 0, 0, 1, 0, 0] 5 n5_2 ⟨[(5, .own 5), (9, dI v15)], [(5, .row 3 .int l2)]⟩ (blockK 5 (sK zc Tryz.f44 [1, 1, 1, 1, 1, 0, 1, 0, 1, 1, 1, 1, 1, 1, 1, 0, 1] 4 (blockK 4 (sK zc Tryz.f44 [1, 1, 1, 1, 1, 1] 0 (eK Tryz.f44 R)))))
def zbg (a0 : ConD) (R : D → Prop) (l2 : List Int) (n9_2 : Nat) (v17 : Int) : Prop := LP zc Tryz.f44 [1, 1, 1, 1, 1, 0, 1, 0, 1, 1, 1, 1, 1, 1, 1, 1, 1, 0, 0, 1, 0, 0] 9 n9_2 ⟨[(2, .iptr [dI a0.kind, .sl .int a0.vars, .sl .int a0.consts, dI a0.n, dS a0.rows, .sl .lit a0.lits] 0), (5, .own 5), (11, dI v17)], [(5, .row 3 .int l2)]⟩ (blockK 9 (sK zc Tryz.f44 [1, 1, 1, 1, 1, 0, 1, 0, 1, 1, 1, 1, 1, 1, 1, 1, 1, 0, 1] 4 (blockK 4 (sK zc Tryz.f44 [1, 1, 1, 1, 1, 1] 0 (eK Tryz.f44 R)))))
def zcg (a0 : ConD) (R : D → Prop) (l2 : List Int) (n11_2 : Nat) (v18 : Int) : Prop := LP zc Tryz.f44 [1, 1, 1, 1, 1, 0, 1, 0, 1, 1, 1, 1, 1, 1, 1, 1, 1, 1, 1, 0, 0, 1, 0, 0] 11 n11_2 ⟨[(2, .iptr [dI a0.kind, .sl .int a0.vars, .sl .int a0.consts, dI a0.n, dS a0.rows, .sl .lit a0.lits] 0), (5, .own 5), (12, dI v18)], [(5, .row 3 .int l2)]⟩ (blockK 11 (sK zc Tryz.f44 [1, 1, 1, 1, 1, 0, 1, 0, 1, 1, 1, 1, 1, 1, 1, 1, 1, 1, 1, 0, 1] 4 (blockK 4 (sK zc Tryz.f44 [1, 1, 1, 1, 1, 1] 0 (eK Tryz.f44 R)))))
def znd (R : D → Prop) (l2 : List Int) (n13_2 : Nat) (v20 : Bool) (v21 : Int) : Prop := LP zc Tryz.f44 [1, 1, 1, 1, 1, 0, 1, 0, 1, 1, 1, 1, 1, 1, 1, 1, 1, 1, 1, 1, 1, 1, 1, 0, 1, 0, 1, 0, 0] 13 n13_2 ⟨[(5, .own 5), (13, dB v20), (14, dI v21)], [(5, .row 3 .int l2)]⟩ (blockK 13 (sK zc Tryz.f44 [1, 1, 1, 1, 1, 0, 1, 0, 1, 1, 1, 1, 1, 1, 1, 1, 1, 1, 1, 1, 1, 1, 1, 0, 1, 1] 4 (blockK 4 (sK zc Tryz.f44 [1, 1, 1, 1, 1, 1] 0 (eK Tryz.f44 R)))))
def zdg (a0 : ConD) (a1 : List Int) (R : D → Prop) (n15_2 : Nat) (v22 : Int) : Prop := LP zc Tryz.f44 [1, 1, 1, 1, 1, 0, 1, 0, 1, 1, 1, 1, 1, 1, 1, 1, 1, 1, 1, 1, 1, 1, 1, 1, 1, 0, 0, 1, 0, 0] 15 n15_2 ⟨[(1, .sl .int a1), (2, .iptr [dI a0.kind, .sl .int a0.vars, .sl .int a0.consts, dI a0.n, dS a0.rows, .sl .lit a0.lits] 0), (15, dI v22)], []⟩ (blockK 15 (sK zc Tryz.f44 [1, 1, 1, 1, 1, 0, 1, 0, 1, 1, 1, 1, 1, 1, 1, 1, 1, 1, 1, 1, 1, 1, 1, 1, 1, 0, 1] 4 (blockK 4 (sK zc Tryz.f44 [1, 1, 1, 1, 1, 1] 0 (eK Tryz.f44 R)))))
def zeg (a0 : ConD) (a1 : List Int) (R : D → Prop) (n0 : Nat) (v1 : Int) (l2 : List Int) : Prop := LP zc Tryz.f44 [1, 1, 0, 1, 0, 0] 0 n0 ⟨[(1, .sl .int a1), (2, .iptr [dI a0.kind, .sl .int a0.vars, .sl .int a0.consts, dI a0.n, dS a0.rows, .sl .lit a0.lits] 0), (5, .own 5), (6, dI v1)], [(5, .row 3 .int l2)]⟩ (blockK 0 (sK zc Tryz.f44 [1, 1, 1] 0 (eK Tryz.f44 R)))
theorem zMs (a0 : ConD) (a1 : List Int) (R : D → Prop) (l2 : List Int) (n2 : Nat) (v3 : Int) (v4 : Int) : z8f a0 a1 R l2 (n2 + 1) v3 v4 =
 (sel (decide (v4 < (l2.length : Int)))
 (inb v4 l2.length = true ∧
 inb v4 a0.consts.length = true ∧
 z8f a0 a1 R l2 n2 (w64 (v3 + (w64 ((at' .int l2 v4.toNat) * (at' .int a0.consts v4.toNat))))) (w64 (v4 + 1)))
 (sel (decide (a0.kind = 1))
 (R (dB (decide (v3 ≤ a0.n))))
 (sel (decide (a0.kind = 2))
 (R (dB (decide (v3 = a0.n))))
 (sel (decide (a0.kind = 3))
 (R (dB (!decide (v3 = a0.n))))
 (sel (decide (a0.kind = 4))
 (∃ n5, zHs R l2 n5 0)
 (sel (decide (a0.kind = 5))
 (∃ n9, zIs a0 R l2 n9 0)
 (sel (decide (a0.kind = 6))
 (∃ n11, zJs a0 R l2 n11 0)
 (sel (decide (a0.kind = 7))
 (inb 0 l2.length = true ∧
 inb 1 l2.length = true ∧
 inb 2 l2.length = true ∧
 R (dB (decide ((w64 ((at' .int l2 0) * (at' .int l2 1))) = (at' .int l2 2)))))
 (sel (decide (a0.kind = 8))
 (∃ n13, zKs R l2 n13 false 1)
 (sel (decide (a0.kind = 9))
 (∃ n15, zLs a0 a1 R n15 0)
 (inb 0 a0.lits.length = true ∧
 inb 0 a0.lits.length = true ∧
 inb ((at' .lit a0.lits 0).var) a1.length = true ∧
 Call1 Tryz.prog zsc [dL (at' .lit a0.lits 0), dI (at' .int a1 (((at' .lit a0.lits 0).var).toNat))] .bool fun c14 =>
 sel c14
 (inb 0 l2.length = true ∧
 R (dB (decide ((at' .int l2 0) = 1))))
 (inb 0 l2.length = true ∧
 R (dB (decide ((at' .int l2 0) = 0))))))))))))))) := by kernel_rfl
theorem zNs (R : D → Prop) (l2 : List Int) (n5_2 : Nat) (v15 : Int) (n7_2 : Nat) (v16 : Int) : z9f R l2 n5_2 v15 (n7_2 + 1) v16 =
 (sel (decide (v16 < v15))
 (inb v15 l2.length = true ∧
 inb v16 l2.length = true ∧
 sel (decide ((at' .int l2 v15.toNat) = (at' .int l2 v16.toNat)))
 (R (dB false))
 (z9f R l2 n5_2 v15 n7_2 (w64 (v16 + 1))))
 (zag R l2 n5_2 (w64 (v15 + 1)))) := by kernel_rfl
theorem zOs (R : D → Prop) (l2 : List Int) (n5_2 : Nat) (v15 : Int) : zag R l2 (n5_2 + 1) v15 =
 (sel (decide (v15 < (l2.length : Int)))
 (∃ n7_2, z9f R l2 n5_2 v15 n7_2 0)
 (R (dB true))) := by kernel_rfl
theorem zPs (a0 : ConD) (R : D → Prop) (l2 : List Int) (n9_2 : Nat) (v17 : Int) : zbg a0 R l2 (n9_2 + 1) v17 =
 (sel (decide (v17 < (a0.consts.length : Int)))
 (inb 0 l2.length = true ∧
 sel (decide ((at' .int l2 0) = v17))
 (inb v17 a0.consts.length = true ∧
 inb 1 l2.length = true ∧
 R (dB (decide ((at' .int a0.consts v17.toNat) = (at' .int l2 1)))))
 (zbg a0 R l2 n9_2 (w64 (v17 + 1))))
 (R (dB false))) := by kernel_rfl
theorem zXk (a0 : ConD) (R : D → Prop) (l2 : List Int) (n11_2 : Nat) (v18 : Int) : zcg a0 R l2 (n11_2 + 1) v18 =
 (sel (decide (v18 < (a0.rows.length : Int)))
 (inb v18 a0.rows.length = true ∧
 Call1 Tryz.prog z4c [.sl .int (at' (.list .int) a0.rows v18.toNat), .sl .int l2] .bool fun c19 =>
 sel c19
 (R (dB true))
 (zcg a0 R l2 n11_2 (w64 (v18 + 1))))
 (R (dB false))) := by kernel_rfl
theorem zQs (R : D → Prop) (l2 : List Int) (n13_2 : Nat) (v20 : Bool) (v21 : Int) : znd R l2 (n13_2 + 1) v20 v21 =
 (sel (decide (v21 < (l2.length : Int)))
 (inb v21 l2.length = true ∧
 inb 0 l2.length = true ∧
 sel (decide ((at' .int l2 0) < (at' .int l2 v21.toNat)))
 (R (dB false))
 (sel v20
 (znd R l2 n13_2 true (w64 (v21 + 1)))
 (inb v21 l2.length = true ∧
 inb 0 l2.length = true ∧
 znd R l2 n13_2 (decide ((at' .int l2 v21.toNat) = (at' .int l2 0))) (w64 (v21 + 1)))))
 (R (dB v20))) := by kernel_rfl
theorem zYk (a0 : ConD) (a1 : List Int) (R : D → Prop) (n15_2 : Nat) (v22 : Int) : zdg a0 a1 R (n15_2 + 1) v22 =
 (sel (decide (v22 < (a0.lits.length : Int)))
 (inb v22 a0.lits.length = true ∧
 inb v22 a0.lits.length = true ∧
 inb ((at' .lit a0.lits v22.toNat).var) a1.length = true ∧
 Call1 Tryz.prog zsc [dL (at' .lit a0.lits v22.toNat), dI (at' .int a1 (((at' .lit a0.lits v22.toNat).var).toNat))] .bool fun c23 =>
 sel c23
 (R (dB true))
 (zdg a0 a1 R n15_2 (w64 (v22 + 1))))
 (R (dB false))) := by kernel_rfl
theorem zRs (a0 : ConD) (a1 : List Int) (R : D → Prop) (n0 : Nat) (v1 : Int) (l2 : List Int) : zeg a0 a1 R (n0 + 1) v1 l2 =
 (sel (decide (v1 < (a0.vars.length : Int)))
 (inb v1 a0.vars.length = true ∧
 inb (at' .int a0.vars v1.toNat) a1.length = true ∧
 room .int (l2.length + ([at' .int a1 ((at' .int a0.vars v1.toNat).toNat)]).length) = true ∧
 zeg a0 a1 R n0 (w64 (v1 + 1)) (l2 ++ ([at' .int a1 ((at' .int a0.vars v1.toNat).toNat)])))
 (sel (decide (a0.kind ≤ 3))
 (∃ n2, z8f a0 a1 R l2 n2 0 0)
 (sel (decide (a0.kind = 1))
 (R (dB (decide (0 ≤ a0.n))))
 (sel (decide (a0.kind = 2))
 (R (dB (decide (0 = a0.n))))
 (sel (decide (a0.kind = 3))
 (R (dB (!decide (0 = a0.n))))
 (sel (decide (a0.kind = 4))
 (∃ n5_2, zag R l2 n5_2 0)
 (sel (decide (a0.kind = 5))
 (∃ n9_2, zbg a0 R l2 n9_2 0)
 (sel (decide (a0.kind = 6))
 (∃ n11_2, zcg a0 R l2 n11_2 0)
 (sel (decide (a0.kind = 7))
 (inb 0 l2.length = true ∧
 inb 1 l2.length = true ∧
 inb 2 l2.length = true ∧
 R (dB (decide ((w64 ((at' .int l2 0) * (at' .int l2 1))) = (at' .int l2 2)))))
 (sel (decide (a0.kind = 8))
 (∃ n13_2, znd R l2 n13_2 false 1)
 (sel (decide (a0.kind = 9))
 (∃ n15_2, zdg a0 a1 R n15_2 0)
 (inb 0 a0.lits.length = true ∧
 inb 0 a0.lits.length = true ∧
 inb ((at' .lit a0.lits 0).var) a1.length = true ∧
 Call1 Tryz.prog zsc [dL (at' .lit a0.lits 0), dI (at' .int a1 (((at' .lit a0.lits 0).var).toNat))] .bool fun c24 =>
 sel c24
 (inb 0 l2.length = true ∧
 R (dB (decide ((at' .int l2 0) = 1))))
 (inb 0 l2.length = true ∧
 R (dB (decide ((at' .int l2 0) = 0)))))))))))))))) := by kernel_rfl
theorem zSs (a0 : ConD) (a1 : List Int) (R : D → Prop) : FD zc Tryz.f44 [dC a0, .sl .int a1] R =
 (∃ n0, zeg a0 a1 R n0 0 ([] : List Int)) := by kernel_rfl
theorem zTs (a0 : ConD) (a1 : List Int) : SatI zc Tryz.f44 zqe [dC a0, .sl .int a1] := satD Tryz.func44 (by kernel_rfl) Tryz.ntmps44 rfl
def zGb : Ann := { own := [], live := [(1, ([1, 3, 4, 5, 6, 7], []))], n := 164, nils := [], pubs := [] }
def zfg (a0 : ConD) (R : D → Prop) (n1 : Nat) (v1 : Int) : Prop := LP zGb Tryz.f67 [1, 1, 1, 0, 1, 0, 1, 1, 1, 1, 1, 1, 1, 0, 0, 1, 0, 0] 1 n1 ⟨[(1, .iptr [dI a0.kind, .sl .int a0.vars, .sl .int a0.consts, dI a0.n, dS a0.rows, .sl .lit a0.lits] 0), (3, dI (a0.vars.length : Int)), (4, dI (a0.consts.length : Int)), (5, dI (a0.rows.length : Int)), (6, dI (a0.lits.length : Int)), (7, dI v1)], []⟩ (blockK 1 (sK zGb Tryz.f67 [1, 1, 1, 0, 1, 0, 1, 1, 1, 1, 1, 1, 1, 0, 1] 0 (blockK 0 (sK zGb Tryz.f67 [1, 1, 1, 1] 0 (eK Tryz.f67 R)))))
def zUs (a0 : ConD) (R : D → Prop) (n1_2 : Nat) (v2 : Int) : Prop := LP zGb Tryz.f67 [1, 1, 1, 0, 1, 0, 1, 1, 1, 1, 1, 1, 1, 0, 0, 1, 0, 0] 1 n1_2 ⟨[(1, .iptr [dI a0.kind, .sl .int a0.vars, .sl .int a0.consts, dI a0.n, dS a0.rows, .sl .lit a0.lits] 0), (3, dI (a0.vars.length : Int)), (4, dI (a0.consts.length : Int)), (5, dI (a0.rows.length : Int)), (6, dI (a0.lits.length : Int)), (7, dI v2)], []⟩ (blockK 1 (sK zGb Tryz.f67 [1, 1, 1, 0, 1, 0, 1, 1, 1, 1, 1, 1, 1, 0, 1] 0 (blockK 0 (sK zGb Tryz.f67 [1, 1, 1, 1] 0 (eK Tryz.f67 R)))))
theorem zZk (a0 : ConD) (R : D → Prop) (n1 : Nat) (v1 : Int) : zfg a0 R (n1 + 1) v1 =
 (sel (decide (v1 < (a0.rows.length : Int)))
 (inb v1 a0.rows.length = true ∧
 sel (!decide (((at' (.list .int) a0.rows v1.toNat).length : Int) = (a0.vars.length : Int)))
 (R (dB false))
 (zfg a0 R n1 (w64 (v1 + 1))))
 (sel (decide (1 ≤ (a0.vars.length : Int)))
 (sel (decide ((a0.consts.length : Int) = 0))
 (R (dB (decide ((a0.lits.length : Int) = 0))))
 (R (dB false)))
 (R (dB false)))) := by kernel_rfl
theorem zVs (a0 : ConD) (R : D → Prop) : FD zGb Tryz.f67 [dC a0] R =
 (sel (decide (3 < a0.kind))
 (sel (!decide (a0.n = 0))
 (R (dB false))
 (sel (decide (a0.kind = 1))
 (sel (decide (1 ≤ (a0.vars.length : Int)))
 (sel (decide ((a0.consts.length : Int) = (a0.vars.length : Int)))
 (sel (decide ((a0.rows.length : Int) = 0))
 (R (dB (decide ((a0.lits.length : Int) = 0))))
 (R (dB false)))
 (R (dB false)))
 (R (dB false)))
 (sel (decide (a0.kind = 2))
 (sel (decide (1 ≤ (a0.vars.length : Int)))
 (sel (decide ((a0.consts.length : Int) = (a0.vars.length : Int)))
 (sel (decide ((a0.rows.length : Int) = 0))
 (R (dB (decide ((a0.lits.length : Int) = 0))))
 (R (dB false)))
 (R (dB false)))
 (R (dB false)))
 (sel (decide (a0.kind = 3))
 (sel (decide (1 ≤ (a0.vars.length : Int)))
 (sel (decide ((a0.consts.length : Int) = (a0.vars.length : Int)))
 (sel (decide ((a0.rows.length : Int) = 0))
 (R (dB (decide ((a0.lits.length : Int) = 0))))
 (R (dB false)))
 (R (dB false)))
 (R (dB false)))
 (sel (decide (a0.kind = 4))
 (sel (decide (1 ≤ (a0.vars.length : Int)))
 (sel (decide ((a0.consts.length : Int) = 0))
 (sel (decide ((a0.rows.length : Int) = 0))
 (R (dB (decide ((a0.lits.length : Int) = 0))))
 (R (dB false)))
 (R (dB false)))
 (R (dB false)))
 (sel (decide (a0.kind = 5))
 (sel (decide ((a0.vars.length : Int) = 2))
 (sel (decide (1 ≤ (a0.consts.length : Int)))
 (sel (decide ((a0.rows.length : Int) = 0))
 (R (dB (decide ((a0.lits.length : Int) = 0))))
 (R (dB false)))
 (R (dB false)))
 (R (dB false)))
 (sel (decide (a0.kind = 6))
 (∃ n1, zfg a0 R n1 0)
 (sel (decide (a0.kind = 7))
 (sel (decide ((a0.vars.length : Int) = 3))
 (sel (decide ((a0.consts.length : Int) = 0))
 (sel (decide ((a0.rows.length : Int) = 0))
 (R (dB (decide ((a0.lits.length : Int) = 0))))
 (R (dB false)))
 (R (dB false)))
 (R (dB false)))
 (sel (decide (a0.kind = 8))
 (sel (decide (2 ≤ (a0.vars.length : Int)))
 (sel (decide ((a0.consts.length : Int) = 0))
 (sel (decide ((a0.rows.length : Int) = 0))
 (R (dB (decide ((a0.lits.length : Int) = 0))))
 (R (dB false)))
 (R (dB false)))
 (R (dB false)))
 (sel (decide (a0.kind = 9))
 (sel (decide ((a0.vars.length : Int) = 0))
 (sel (decide ((a0.consts.length : Int) = 0))
 (R (dB (decide ((a0.rows.length : Int) = 0))))
 (R (dB false)))
 (R (dB false)))
 (sel (decide ((a0.vars.length : Int) = 1))
 (sel (decide ((a0.consts.length : Int) = 0))
 (sel (decide ((a0.rows.length : Int) = 0))
 (R (dB (decide ((a0.lits.length : Int) = 1))))
 (R (dB false)))
 (R (dB false)))
 (R (dB false)))))))))))))
 (sel (decide (a0.kind = 1))
 (sel (decide (1 ≤ (a0.vars.length : Int)))
 (sel (decide ((a0.consts.length : Int) = (a0.vars.length : Int)))
 (sel (decide ((a0.rows.length : Int) = 0))
 (R (dB (decide ((a0.lits.length : Int) = 0))))
 (R (dB false)))
 (R (dB false)))
 (R (dB false)))
 (sel (decide (a0.kind = 2))
 (sel (decide (1 ≤ (a0.vars.length : Int)))
 (sel (decide ((a0.consts.length : Int) = (a0.vars.length : Int)))
 (sel (decide ((a0.rows.length : Int) = 0))
 (R (dB (decide ((a0.lits.length : Int) = 0))))
 (R (dB false)))
 (R (dB false)))
 (R (dB false)))
 (sel (decide (a0.kind = 3))
 (sel (decide (1 ≤ (a0.vars.length : Int)))
 (sel (decide ((a0.consts.length : Int) = (a0.vars.length : Int)))
 (sel (decide ((a0.rows.length : Int) = 0))
 (R (dB (decide ((a0.lits.length : Int) = 0))))
 (R (dB false)))
 (R (dB false)))
 (R (dB false)))
 (sel (decide (a0.kind = 4))
 (sel (decide (1 ≤ (a0.vars.length : Int)))
 (sel (decide ((a0.consts.length : Int) = 0))
 (sel (decide ((a0.rows.length : Int) = 0))
 (R (dB (decide ((a0.lits.length : Int) = 0))))
 (R (dB false)))
 (R (dB false)))
 (R (dB false)))
 (sel (decide (a0.kind = 5))
 (sel (decide ((a0.vars.length : Int) = 2))
 (sel (decide (1 ≤ (a0.consts.length : Int)))
 (sel (decide ((a0.rows.length : Int) = 0))
 (R (dB (decide ((a0.lits.length : Int) = 0))))
 (R (dB false)))
 (R (dB false)))
 (R (dB false)))
 (sel (decide (a0.kind = 6))
 (∃ n1_2, zUs a0 R n1_2 0)
 (sel (decide (a0.kind = 7))
 (sel (decide ((a0.vars.length : Int) = 3))
 (sel (decide ((a0.consts.length : Int) = 0))
 (sel (decide ((a0.rows.length : Int) = 0))
 (R (dB (decide ((a0.lits.length : Int) = 0))))
 (R (dB false)))
 (R (dB false)))
 (R (dB false)))
 (sel (decide (a0.kind = 8))
 (sel (decide (2 ≤ (a0.vars.length : Int)))
 (sel (decide ((a0.consts.length : Int) = 0))
 (sel (decide ((a0.rows.length : Int) = 0))
 (R (dB (decide ((a0.lits.length : Int) = 0))))
 (R (dB false)))
 (R (dB false)))
 (R (dB false)))
 (sel (decide (a0.kind = 9))
 (sel (decide ((a0.vars.length : Int) = 0))
 (sel (decide ((a0.consts.length : Int) = 0))
 (R (dB (decide ((a0.rows.length : Int) = 0))))
 (R (dB false)))
 (R (dB false)))
 (sel (decide ((a0.vars.length : Int) = 1))
 (sel (decide ((a0.consts.length : Int) = 0))
 (sel (decide ((a0.rows.length : Int) = 0))
 (R (dB (decide ((a0.lits.length : Int) = 1))))
 (R (dB false)))
 (R (dB false)))
 (R (dB false))))))))))))) := by kernel_rfl
theorem zWs (a0 : ConD) : SatI zGb Tryz.f67 zye [dC a0] := satD Tryz.func67 (by kernel_rfl) Tryz.ntmps67 rfl
def z0k : Ann := { own := [], live := [], n := 5, nils := [], pubs := [] }
theorem zXs (a0 : Int) (R : D → Prop) : FD z0k Tryz.f68 [dI a0] R =
 (Call1 Tryz.prog zA [dI a0, dI (-1000), dI 1000] .bool fun c1 =>
 R (dB c1)) := by kernel_rfl
theorem zYs (a0 : Int) : SatI z0k Tryz.f68 z2b [dI a0] := satD Tryz.func68 (by kernel_rfl) Tryz.ntmps68 rfl
def z1k : Ann := { own := [], live := [], n := 21, nils := [], pubs := [] }
theorem zZs (a0 : MdlD) (a1 : LitD) (R : D → Prop) : FD z1k Tryz.f69 [dM a0, dL a1] R =
 (Call1 Tryz.prog zA [dI a1.var, dI 0, dI (w64 ((a0.vars.length : Int) - 1))] .bool fun c1 =>
 sel (!c1)
 (R (dI 5))
 (Call1 Tryz.prog zA [dI a1.op, dI 1, dI 4] .bool fun c2 =>
 sel (!c2)
 (R (dI 7))
 (Call1 Tryz.prog z2b [dI a1.n] .bool fun c3 =>
 sel (!c3)
 (R (dI 3))
 (R (dI 0))))) := by kernel_rfl
theorem z0s (a0 : MdlD) (a1 : LitD) : SatI z1k Tryz.f69 zze [dM a0, dL a1] := satD Tryz.func69 (by kernel_rfl) Tryz.ntmps69 rfl
def z2k : Ann := { own := [], live := [], n := 47, nils := [], pubs := [] }
theorem z1s (a0 : LitD) (a1 : Int) (R : D → Prop) : FD z2k Tryz.f70 [dL a0, dI a1] R =
 (sel (decide (a0.op = 1))
 (sel (decide (a1 ≤ a0.n))
 (R (dB true))
 (sel (decide (a0.op = 2))
 (sel (decide (a0.n ≤ a1))
 (R (dB true))
 (sel (decide (a0.op = 3))
 (sel (decide (a1 = a0.n))
 (R (dB true))
 (sel (decide (a0.op = 4))
 (R (dB (!decide (a1 = a0.n))))
 (R (dB false))))
 (sel (decide (a0.op = 4))
 (R (dB (!decide (a1 = a0.n))))
 (R (dB false)))))
 (sel (decide (a0.op = 3))
 (sel (decide (a1 = a0.n))
 (R (dB true))
 (sel (decide (a0.op = 4))
 (R (dB (!decide (a1 = a0.n))))
 (R (dB false))))
 (sel (decide (a0.op = 4))
 (R (dB (!decide (a1 = a0.n))))
 (R (dB false))))))
 (sel (decide (a0.op = 2))
 (sel (decide (a0.n ≤ a1))
 (R (dB true))
 (sel (decide (a0.op = 3))
 (sel (decide (a1 = a0.n))
 (R (dB true))
 (sel (decide (a0.op = 4))
 (R (dB (!decide (a1 = a0.n))))
 (R (dB false))))
 (sel (decide (a0.op = 4))
 (R (dB (!decide (a1 = a0.n))))
 (R (dB false)))))
 (sel (decide (a0.op = 3))
 (sel (decide (a1 = a0.n))
 (R (dB true))
 (sel (decide (a0.op = 4))
 (R (dB (!decide (a1 = a0.n))))
 (R (dB false))))
 (sel (decide (a0.op = 4))
 (R (dB (!decide (a1 = a0.n))))
 (R (dB false)))))) := by kernel_rfl
theorem z2s (a0 : LitD) (a1 : Int) : SatI z2k Tryz.f70 zsc [dL a0, dI a1] := satD Tryz.func70 (by kernel_rfl) Tryz.ntmps70 rfl
end Go.Proofs.YtajnbkhgnppckaaGreatDoor
