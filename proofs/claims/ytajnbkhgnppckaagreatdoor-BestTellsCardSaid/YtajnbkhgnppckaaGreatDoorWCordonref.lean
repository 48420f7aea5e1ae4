/- What the functions of a package do, as equations of plain propositions: printed by a program that carries the code out on symbols. -/
import Derived.Test.YtajnbkhgnppckaaGreatDoorWEv
namespace Go.Proofs.YtajnbkhgnppckaaGreatDoor
open Go.RowKit
set_option linter.unusedVariables false
set_option maxRecDepth 100000
def zJg : Ann := { own := [], live := [(0, ([0, 1, 5], []))], n := 26, nils := [], pubs := [] }
def zKg (a0 : List Int) (a1 : List Int) (R : D → Prop) (n0 : Nat) (i1 : Int) : Prop := LP zJg Tryz.f12 [1, 1, 0, 1, 0, 0] 0 n0 ⟨[(0, .sl .int a0), (1, .sl .int a1), (5, dI i1)], []⟩ (blockK 0 (sK zJg Tryz.f12 [1, 1, 1] 0 (eK Tryz.f12 R)))
theorem z7l (a0 : List Int) (a1 : List Int) (R : D → Prop) (n0 : Nat) (i1 : Int) : zKg a0 a1 R (n0 + 1) i1 =
 (sel (decide (i1 < (a0.length : Int)))
 (inb i1 a0.length = true ∧
 inb i1 a1.length = true ∧
 sel (!decide ((at' .int a0 i1.toNat) = (at' .int a1 i1.toNat)))
 (R (dB false))
 (zKg a0 a1 R n0 (w64 (i1 + 1))))
 (R (dB true))) := by kernel_rfl
theorem zOt (a0 : List Int) (a1 : List Int) (R : D → Prop) : FD zJg Tryz.f12 [.sl .int a0, .sl .int a1] R =
 (sel (!decide ((a0.length : Int) = (a1.length : Int)))
 (R (dB false))
 (∃ n0, zKg a0 a1 R n0 0)) := by kernel_rfl
theorem zPt (a0 : List Int) (a1 : List Int) : SatI zJg Tryz.f12 zQc [.sl .int a0, .sl .int a1] := satD Tryz.func12 (by kernel_rfl) Tryz.ntmps12 rfl
def zjb : Ann := { own := [5], live := [(0, ([1, 3, 4], [])), (2, ([1, 3, 4, 5, 6], [5])), (4, ([1, 3, 7], []))], n := 114, nils := [], pubs := [] }
def zLg (a0 : MdlD) (R : D → Prop) (n0 : Nat) (v1 : Int) (n2 : Nat) (v3 : Int) : Prop := LP zjb Tryz.f15 [1, 1, 1, 1, 0, 1, 0, 0, 1, 0, 0, 1, 1, 0, 1, 0, 0] 2 n2 ⟨[(1, .iptr [.sl .var a0.vars, .sl .con a0.cons, dI a0.goal, dI a0.var] 0), (3, dI (a0.vars.length : Int)), (4, dI v1), (5, .ptr 5 0), (6, dI v3)], [(5, .cells [.str ((at' .var a0.vars v1.toNat).name), dI ((at' .var a0.vars v1.toNat).lo), dI ((at' .var a0.vars v1.toNat).hi)])]⟩ (blockK 2 (sK zjb Tryz.f15 [1, 1, 1, 1, 0, 1, 0, 0, 1, 0, 0, 1, 1, 1] 1 (blockK 1 (sK zjb Tryz.f15 [1, 1, 1, 1, 0, 1, 0, 0, 1, 1] 0 (iK zjb Tryz.f15 [1, 1, 1, 1, 0, 1, 0, 0] 0 n0 (blockK 0 (sK zjb Tryz.f15 [1, 1, 1, 1, 1] 0 (eK Tryz.f15 R))))))))
def zMg (a0 : MdlD) (R : D → Prop) (n4 : Nat) (v6 : Int) : Prop := LP zjb Tryz.f15 [1, 1, 1, 1, 1, 0, 1, 0, 0] 4 n4 ⟨[(1, .iptr [.sl .var a0.vars, .sl .con a0.cons, dI a0.goal, dI a0.var] 0), (3, dI (a0.vars.length : Int)), (7, dI v6)], []⟩ (blockK 4 (sK zjb Tryz.f15 [1, 1, 1, 1, 1, 1] 0 (eK Tryz.f15 R)))
def zNg (a0 : MdlD) (R : D → Prop) (n0 : Nat) (v1 : Int) : Prop := LP zjb Tryz.f15 [1, 1, 1, 1, 0, 1, 0, 0] 0 n0 ⟨[(1, .iptr [.sl .var a0.vars, .sl .con a0.cons, dI a0.goal, dI a0.var] 0), (3, dI (a0.vars.length : Int)), (4, dI v1)], []⟩ (blockK 0 (sK zjb Tryz.f15 [1, 1, 1, 1, 1] 0 (eK Tryz.f15 R)))
theorem z8l (a0 : MdlD) (R : D → Prop) (n0 : Nat) (v1 : Int) (n2 : Nat) (v3 : Int) : zLg a0 R n0 v1 (n2 + 1) v3 =
 (sel (decide (v3 < v1))
 (inb v3 a0.vars.length = true ∧
 sel (decide (((at' .var a0.vars v3.toNat).name) = ((at' .var a0.vars v1.toNat).name)))
 (R (dI 6))
 (zLg a0 R n0 v1 n2 (w64 (v3 + 1))))
 (Call1 Tryz.prog zy [dI ((at' .var a0.vars v1.toNat).lo), dI (-50), dI 50] .bool fun c4 =>
 sel (!c4)
 (R (dI 3))
 (Call1 Tryz.prog zy [dI ((at' .var a0.vars v1.toNat).hi), dI (-50), dI 50] .bool fun c5 =>
 sel (!c5)
 (R (dI 3))
 (sel (decide (((at' .var a0.vars v1.toNat).hi) < ((at' .var a0.vars v1.toNat).lo)))
 (R (dI 3))
 (sel (decide (6 < (w64 ((w64 (((at' .var a0.vars v1.toNat).hi) - ((at' .var a0.vars v1.toNat).lo))) + 1))))
 (R (dI 2))
 (zNg a0 R n0 (w64 (v1 + 1)))))))) := by kernel_rfl
theorem z9l (a0 : MdlD) (R : D → Prop) (n4 : Nat) (v6 : Int) : zMg a0 R (n4 + 1) v6 =
 (sel (decide (v6 < (a0.cons.length : Int)))
 (inb v6 a0.cons.length = true ∧
 Call1 Tryz.prog zcf [dM a0, dC (at' .con a0.cons v6.toNat)] .int fun c7 =>
 sel (!decide (c7 = 0))
 (R (dI c7))
 (zMg a0 R n4 (w64 (v6 + 1))))
 (Call1 Tryz.prog zy [dI a0.goal, dI 0, dI 2] .bool fun c8 =>
 sel (!c8)
 (R (dI 7))
 (sel (decide (a0.goal = 0))
 (sel (!decide (a0.var = 0))
 (R (dI 1))
 (sel (!decide (a0.goal = 0))
 (Call1 Tryz.prog zy [dI a0.var, dI 0, dI (w64 ((a0.vars.length : Int) - 1))] .bool fun c9 =>
 sel (!c9)
 (R (dI 5))
 (R (dI 0)))
 (R (dI 0))))
 (sel (!decide (a0.goal = 0))
 (Call1 Tryz.prog zy [dI a0.var, dI 0, dI (w64 ((a0.vars.length : Int) - 1))] .bool fun c10 =>
 sel (!c10)
 (R (dI 5))
 (R (dI 0)))
 (R (dI 0)))))) := by kernel_rfl
theorem zam (a0 : MdlD) (R : D → Prop) (n0 : Nat) (v1 : Int) : zNg a0 R (n0 + 1) v1 =
 (sel (decide (v1 < (a0.vars.length : Int)))
 (inb v1 a0.vars.length = true ∧
 Call1 Tryz.prog z2i [.str ((at' .var a0.vars v1.toNat).name)] .bool fun c2 =>
 sel (!c2)
 (R (dI 1))
 (∃ n2, zLg a0 R n0 v1 n2 0))
 (∃ n4, zMg a0 R n4 0)) := by kernel_rfl
theorem zQt (a0 : MdlD) (R : D → Prop) : FD zjb Tryz.f15 [dM a0] R =
 (sel (decide ((a0.vars.length : Int) = 0))
 (R (dI 1))
 (sel (decide (6 < (a0.vars.length : Int)))
 (R (dI 2))
 (sel (decide (8 < (a0.cons.length : Int)))
 (R (dI 2))
 (∃ n0, zNg a0 R n0 0)))) := by kernel_rfl
theorem zRt (a0 : MdlD) : SatI zjb Tryz.f15 z7e [dM a0] := satD Tryz.func15 (by kernel_rfl) Tryz.ntmps15 rfl
def zbm : Ann := { own := [], live := [], n := 31, nils := [], pubs := [] }
theorem zSt (a0 : MdlD) (a1 : List Int) (R : D → Prop) : FD zbm Tryz.f20 [dM a0, .sl .int a1] R =
 (sel (decide (a0.goal = 1))
 (inb a0.var a1.length = true ∧
 R (.sl .lit ([(⟨a0.var, 1, w64 ((at' .int a1 a0.var.toNat) - 1)⟩ : LitD)])))
 (sel (decide (a0.goal = 2))
 (inb a0.var a1.length = true ∧
 R (.sl .lit ([(⟨a0.var, 2, w64 ((at' .int a1 a0.var.toNat) + 1)⟩ : LitD)])))
 (R (.sl .lit ([] : List LitD))))) := by kernel_rfl
theorem zTt (a0 : MdlD) (a1 : List Int) : SatI zbm Tryz.f20 zTb [dM a0, .sl .int a1] := satD Tryz.func20 (by kernel_rfl) Tryz.ntmps20 rfl
def zOg : Ann := { own := [], live := [(0, ([0, 1, 5], []))], n := 26, nils := [], pubs := [] }
def zPg (a0 : List LitD) (a1 : List LitD) (R : D → Prop) (n0 : Nat) (i1 : Int) : Prop := LP zOg Tryz.f22 [1, 1, 0, 1, 0, 0] 0 n0 ⟨[(0, .sl .lit a0), (1, .sl .lit a1), (5, dI i1)], []⟩ (blockK 0 (sK zOg Tryz.f22 [1, 1, 1] 0 (eK Tryz.f22 R)))
theorem zcm (a0 : List LitD) (a1 : List LitD) (R : D → Prop) (n0 : Nat) (i1 : Int) : zPg a0 a1 R (n0 + 1) i1 =
 (sel (decide (i1 < (a0.length : Int)))
 (inb i1 a0.length = true ∧
 inb i1 a1.length = true ∧
 sel (!decide ((at' .lit a0 i1.toNat) = (at' .lit a1 i1.toNat)))
 (R (dB false))
 (zPg a0 a1 R n0 (w64 (i1 + 1))))
 (R (dB true))) := by kernel_rfl
theorem zUt (a0 : List LitD) (a1 : List LitD) (R : D → Prop) : FD zOg Tryz.f22 [.sl .lit a0, .sl .lit a1] R =
 (sel (!decide ((a0.length : Int) = (a1.length : Int)))
 (R (dB false))
 (∃ n0, zPg a0 a1 R n0 0)) := by kernel_rfl
theorem zVt (a0 : List LitD) (a1 : List LitD) : SatI zOg Tryz.f22 z8e [.sl .lit a0, .sl .lit a1] := satD Tryz.func22 (by kernel_rfl) Tryz.ntmps22 rfl
def z6c : Ann := { own := [], live := [(0, ([1, 2, 5], [])), (2, ([1, 2, 6], []))], n := 47, nils := [], pubs := [] }
def zQg (a0 : MdlD) (a1 : List Int) (R : D → Prop) (n2 : Nat) (i3 : Int) : Prop := LP z6c Tryz.f25 [1, 1, 0, 1, 0, 0] 2 n2 ⟨[(1, .sl .int a1), (2, .iptr [.sl .var a0.vars, .sl .con a0.cons, dI a0.goal, dI a0.var] 0), (6, dI i3)], []⟩ (blockK 2 (sK z6c Tryz.f25 [1, 1, 1] 0 (eK Tryz.f25 R)))
def zRg (a0 : MdlD) (a1 : List Int) (R : D → Prop) (n0 : Nat) (i1 : Int) : Prop := LP z6c Tryz.f25 [1, 0, 1, 0, 0] 0 n0 ⟨[(1, .sl .int a1), (2, .iptr [.sl .var a0.vars, .sl .con a0.cons, dI a0.goal, dI a0.var] 0), (5, dI i1)], []⟩ (blockK 0 (sK z6c Tryz.f25 [1, 1] 0 (eK Tryz.f25 R)))
theorem zdm (a0 : MdlD) (a1 : List Int) (R : D → Prop) (n2 : Nat) (i3 : Int) : zQg a0 a1 R (n2 + 1) i3 =
 (sel (decide (i3 < (a0.cons.length : Int)))
 (inb i3 a0.cons.length = true ∧
 Call1 Tryz.prog zTc [dC (at' .con a0.cons i3.toNat), .sl .int a1] .bool fun c4 =>
 sel (!c4)
 (R (dB false))
 (zQg a0 a1 R n2 (w64 (i3 + 1))))
 (R (dB true))) := by kernel_rfl
theorem zem (a0 : MdlD) (a1 : List Int) (R : D → Prop) (n0 : Nat) (i1 : Int) : zRg a0 a1 R (n0 + 1) i1 =
 (sel (decide (i1 < (a0.vars.length : Int)))
 (inb i1 a1.length = true ∧
 inb i1 a0.vars.length = true ∧
 inb i1 a0.vars.length = true ∧
 Call1 Tryz.prog zy [dI (at' .int a1 i1.toNat), dI ((at' .var a0.vars i1.toNat).lo), dI ((at' .var a0.vars i1.toNat).hi)] .bool fun c2 =>
 sel (!c2)
 (R (dB false))
 (zRg a0 a1 R n0 (w64 (i1 + 1))))
 (∃ n2, zQg a0 a1 R n2 0)) := by kernel_rfl
theorem zWt (a0 : MdlD) (a1 : List Int) (R : D → Prop) : FD z6c Tryz.f25 [dM a0, .sl .int a1] R =
 (∃ n0, zRg a0 a1 R n0 0) := by kernel_rfl
theorem zXt (a0 : MdlD) (a1 : List Int) : SatI z6c Tryz.f25 zVb [dM a0, .sl .int a1] := satD Tryz.func25 (by kernel_rfl) Tryz.ntmps25 rfl
def z7c : Ann := { own := [], live := [(0, ([2, 3, 8], [])), (2, ([2, 3, 9], []))], n := 65, nils := [], pubs := [] }
def z1d (a0 : MdlD) (a2 : List StepD) (R : D → Prop) (n2 : Nat) (v4 : Int) : Prop := LP z7c Tryz.f26 [1, 1, 1, 1, 1, 0, 1, 0, 0] 2 n2 ⟨[(2, .sl .step a2), (3, .iptr [.sl .var a0.vars, .sl .con a0.cons, dI a0.goal, dI a0.var] 0), (9, dI v4)], []⟩ (blockK 2 (sK z7c Tryz.f26 [1, 1, 1, 1, 1, 1] 0 (eK Tryz.f26 R)))
def zSg (a0 : MdlD) (a2 : List StepD) (R : D → Prop) (n0 : Nat) (v2 : Int) : Prop := LP z7c Tryz.f26 [1, 1, 1, 1, 0, 1, 0, 0] 0 n0 ⟨[(2, .sl .step a2), (3, .iptr [.sl .var a0.vars, .sl .con a0.cons, dI a0.goal, dI a0.var] 0), (8, dI v2)], []⟩ (blockK 0 (sK z7c Tryz.f26 [1, 1, 1, 1, 1] 0 (eK Tryz.f26 R)))
theorem zfm (a0 : MdlD) (a2 : List StepD) (R : D → Prop) (n2 : Nat) (v4 : Int) : z1d a0 a2 R (n2 + 1) v4 =
 (sel (decide (v4 < (a2.length : Int)))
 (inb v4 a2.length = true ∧
 sel (decide (((at' .step a2 v4.toNat).kind) = 1))
 (inb v4 a2.length = true ∧
 Call1 Tryz.prog zy [dI ((at' .step a2 v4.toNat).con), dI 0, dI (w64 ((a0.cons.length : Int) - 1))] .bool fun c5 =>
 sel (!c5)
 (R (dI 5))
 (z1d a0 a2 R n2 (w64 (v4 + 1))))
 (z1d a0 a2 R n2 (w64 (v4 + 1))))
 (R (dI 0))) := by kernel_rfl
theorem zgm (a0 : MdlD) (a2 : List StepD) (R : D → Prop) (n0 : Nat) (v2 : Int) : zSg a0 a2 R (n0 + 1) v2 =
 (sel (decide (v2 < (a2.length : Int)))
 (inb v2 a2.length = true ∧
 Call1 Tryz.prog zHd [dM a0, .sl .lit ((at' .step a2 v2.toNat).clause)] .int fun c3 =>
 sel (!decide (c3 = 0))
 (R (dI c3))
 (zSg a0 a2 R n0 (w64 (v2 + 1))))
 (∃ n2, z1d a0 a2 R n2 0)) := by kernel_rfl
theorem zYt (a0 : MdlD) (a1 : List (List LitD)) (a2 : List StepD) (R : D → Prop) : FD z7c Tryz.f26 [dM a0, .sl (.list .lit) a1, .sl .step a2] R =
 (sel (decide (600 < (a1.length : Int)))
 (R (dI 2))
 (sel (decide (6000 < (a2.length : Int)))
 (R (dI 2))
 (Call1 Tryz.prog zef [dM a0, .sl (.list .lit) a1] .int fun c1 =>
 sel (!decide (c1 = 0))
 (R (dI c1))
 (∃ n0, zSg a0 a2 R n0 0)))) := by kernel_rfl
theorem zZt (a0 : MdlD) (a1 : List (List LitD)) (a2 : List StepD) : SatI z7c Tryz.f26 zT [dM a0, .sl (.list .lit) a1, .sl .step a2] := satD Tryz.func26 (by kernel_rfl) Tryz.ntmps26 rfl
def zhm : Ann := { own := [], live := [], n := 27, nils := [], pubs := [] }
theorem z0t (a0 : MdlD) (a1 : List (List LitD)) (a2 : List StepD) (R : D → Prop) : FD zhm Tryz.f27 [dM a0, .sl (.list .lit) a1, .sl .step a2] R =
 (sel (decide (0 < (a2.length : Int)))
 (inb (w64 ((a2.length : Int) - 1)) a2.length = true ∧
 sel (decide ((((at' .step a2 ((w64 ((a2.length : Int) - 1)).toNat)).clause).length : Int) = 0))
 (Call1 Tryz.prog zff [dM a0, .sl (.list .lit) a1, .sl .step a2] .bool fun c1 =>
 R (dB c1))
 (R (dB false)))
 (R (dB false))) := by kernel_rfl
theorem z1t (a0 : MdlD) (a1 : List (List LitD)) (a2 : List StepD) : SatI zhm Tryz.f27 zU [dM a0, .sl (.list .lit) a1, .sl .step a2] := satD Tryz.func27 (by kernel_rfl) Tryz.ntmps27 rfl
def zTg : Ann := { own := [], live := [(0, ([1, 3, 4], []))], n := 29, nils := [], pubs := [] }
def zUg (a0 : MdlD) (R : D → Prop) (n0 : Nat) (n1 : Int) (i2 : Int) : Prop := LP zTg Tryz.f28 [1, 1, 0, 1, 0, 0] 0 n0 ⟨[(1, .iptr [.sl .var a0.vars, .sl .con a0.cons, dI a0.goal, dI a0.var] 0), (3, dI n1), (4, dI i2)], []⟩ (blockK 0 (sK zTg Tryz.f28 [1, 1, 1] 0 (eK Tryz.f28 R)))
theorem z2t (a0 : MdlD) (R : D → Prop) (n0 : Nat) (n1 : Int) (i2 : Int) : zUg a0 R (n0 + 1) n1 i2 =
 (sel (decide (i2 < (a0.vars.length : Int)))
 (inb i2 a0.vars.length = true ∧
 inb i2 a0.vars.length = true ∧
 zUg a0 R n0 (w64 (n1 * (w64 ((w64 (((at' .var a0.vars i2.toNat).hi) - ((at' .var a0.vars i2.toNat).lo))) + 1)))) (w64 (i2 + 1)))
 (R (dI n1))) := by kernel_rfl
theorem z3t (a0 : MdlD) (R : D → Prop) : FD zTg Tryz.f28 [dM a0] R =
 (∃ n0, zUg a0 R n0 1 0) := by kernel_rfl
theorem z4t (a0 : MdlD) : SatI zTg Tryz.f28 zWb [dM a0] := satD Tryz.func28 (by kernel_rfl) Tryz.ntmps28 rfl
def zim : Ann := { own := [], live := [], n := 15, nils := [], pubs := [] }
theorem z5t (a0 : Int) (a1 : Int) (a2 : Int) (R : D → Prop) : FD zim Tryz.f40 [dI a0, dI a1, dI a2] R =
 (sel (decide (a1 ≤ a0))
 (R (dB (decide (a0 ≤ a2))))
 (R (dB false))) := by kernel_rfl
theorem z6t (a0 : Int) (a1 : Int) (a2 : Int) : SatI zim Tryz.f40 zy [dI a0, dI a1, dI a2] := satD Tryz.func40 (by kernel_rfl) Tryz.ntmps40 rfl
def zC : Ann := { own := [], live := [(0, ([2, 3, 5], [])), (2, ([2, 3, 6], [])), (4, ([2, 3, 7], [])), (6, ([2, 3, 8], [])), (8, ([2, 3, 8, 9], [])), (10, ([2, 3, 10], []))], n := 140, nils := [], pubs := [] }
def zVg (a0 : MdlD) (a1 : ConD) (R : D → Prop) (n6 : Nat) (v10 : Int) (n8 : Nat) (v11 : Int) : Prop := LP zC Tryz.f41 [1, 1, 1, 1, 1, 1, 1, 1, 0, 1, 0, 0, 1, 0, 0, 1, 0, 0] 8 n8 ⟨[(2, .iptr [.sl .var a0.vars, .sl .con a0.cons, dI a0.goal, dI a0.var] 0), (3, .iptr [dI a1.kind, .sl .int a1.vars, .sl .int a1.consts, dI a1.n, dS a1.rows, .sl .lit a1.lits] 0), (8, dI v10), (9, dI v11)], []⟩ (blockK 8 (blockK 7 (sK zC Tryz.f41 [1, 1, 1, 1, 1, 1, 1, 1, 0, 1, 0, 0, 1, 1] 6 (iK zC Tryz.f41 [1, 1, 1, 1, 1, 1, 1, 1, 0, 1, 0, 0] 6 n6 (blockK 6 (sK zC Tryz.f41 [1, 1, 1, 1, 1, 1, 1, 1, 1] 0 (eK Tryz.f41 R)))))))
def zWg (a0 : MdlD) (a1 : ConD) (R : D → Prop) (n10 : Nat) (v13 : Int) : Prop := LP zC Tryz.f41 [1, 1, 1, 1, 1, 1, 1, 1, 1, 0, 1, 0, 0] 10 n10 ⟨[(2, .iptr [.sl .var a0.vars, .sl .con a0.cons, dI a0.goal, dI a0.var] 0), (3, .iptr [dI a1.kind, .sl .int a1.vars, .sl .int a1.consts, dI a1.n, dS a1.rows, .sl .lit a1.lits] 0), (10, dI v13)], []⟩ (blockK 10 (sK zC Tryz.f41 [1, 1, 1, 1, 1, 1, 1, 1, 1, 1] 0 (eK Tryz.f41 R)))
def zXg (a0 : MdlD) (a1 : ConD) (R : D → Prop) (n6 : Nat) (v10 : Int) : Prop := LP zC Tryz.f41 [1, 1, 1, 1, 1, 1, 1, 1, 0, 1, 0, 0] 6 n6 ⟨[(2, .iptr [.sl .var a0.vars, .sl .con a0.cons, dI a0.goal, dI a0.var] 0), (3, .iptr [dI a1.kind, .sl .int a1.vars, .sl .int a1.consts, dI a1.n, dS a1.rows, .sl .lit a1.lits] 0), (8, dI v10)], []⟩ (blockK 6 (sK zC Tryz.f41 [1, 1, 1, 1, 1, 1, 1, 1, 1] 0 (eK Tryz.f41 R)))
def zYg (a0 : MdlD) (a1 : ConD) (R : D → Prop) (n4 : Nat) (v7 : Int) : Prop := LP zC Tryz.f41 [1, 1, 1, 1, 1, 1, 0, 1, 0, 0] 4 n4 ⟨[(2, .iptr [.sl .var a0.vars, .sl .con a0.cons, dI a0.goal, dI a0.var] 0), (3, .iptr [dI a1.kind, .sl .int a1.vars, .sl .int a1.consts, dI a1.n, dS a1.rows, .sl .lit a1.lits] 0), (7, dI v7)], []⟩ (blockK 4 (sK zC Tryz.f41 [1, 1, 1, 1, 1, 1, 1] 0 (eK Tryz.f41 R)))
def zZg (a0 : MdlD) (a1 : ConD) (R : D → Prop) (n2 : Nat) (v5 : Int) : Prop := LP zC Tryz.f41 [1, 1, 1, 1, 1, 0, 1, 0, 0] 2 n2 ⟨[(2, .iptr [.sl .var a0.vars, .sl .con a0.cons, dI a0.goal, dI a0.var] 0), (3, .iptr [dI a1.kind, .sl .int a1.vars, .sl .int a1.consts, dI a1.n, dS a1.rows, .sl .lit a1.lits] 0), (6, dI v5)], []⟩ (blockK 2 (sK zC Tryz.f41 [1, 1, 1, 1, 1, 1] 0 (eK Tryz.f41 R)))
def z0g (a0 : MdlD) (a1 : ConD) (R : D → Prop) (n0 : Nat) (v3 : Int) : Prop := LP zC Tryz.f41 [1, 1, 1, 1, 0, 1, 0, 0] 0 n0 ⟨[(2, .iptr [.sl .var a0.vars, .sl .con a0.cons, dI a0.goal, dI a0.var] 0), (3, .iptr [dI a1.kind, .sl .int a1.vars, .sl .int a1.consts, dI a1.n, dS a1.rows, .sl .lit a1.lits] 0), (5, dI v3)], []⟩ (blockK 0 (sK zC Tryz.f41 [1, 1, 1, 1, 1] 0 (eK Tryz.f41 R)))
theorem zjm (a0 : MdlD) (a1 : ConD) (R : D → Prop) (n6 : Nat) (v10 : Int) (n8 : Nat) (v11 : Int) : zVg a0 a1 R n6 v10 (n8 + 1) v11 =
 (inb v10 a1.rows.length = true ∧
 sel (decide (v11 < ((at' (.list .int) a1.rows v10.toNat).length : Int)))
 (inb v10 a1.rows.length = true ∧
 inb v11 (at' (.list .int) a1.rows v10.toNat).length = true ∧
 Call1 Tryz.prog zpc [dI (at' .int (at' (.list .int) a1.rows v10.toNat) v11.toNat)] .bool fun c12 =>
 sel (!c12)
 (R (dI 3))
 (zVg a0 a1 R n6 v10 n8 (w64 (v11 + 1))))
 (zXg a0 a1 R n6 (w64 (v10 + 1)))) := by kernel_rfl
theorem zkm (a0 : MdlD) (a1 : ConD) (R : D → Prop) (n10 : Nat) (v13 : Int) : zWg a0 a1 R (n10 + 1) v13 =
 (sel (decide (v13 < (a1.lits.length : Int)))
 (inb v13 a1.lits.length = true ∧
 Call1 Tryz.prog zVc [dM a0, dL (at' .lit a1.lits v13.toNat)] .int fun c14 =>
 sel (!decide (c14 = 0))
 (R (dI c14))
 (zWg a0 a1 R n10 (w64 (v13 + 1))))
 (R (dI 0))) := by kernel_rfl
theorem zlm (a0 : MdlD) (a1 : ConD) (R : D → Prop) (n6 : Nat) (v10 : Int) : zXg a0 a1 R (n6 + 1) v10 =
 (sel (decide (v10 < (a1.rows.length : Int)))
 (∃ n8, zVg a0 a1 R n6 v10 n8 0)
 (∃ n10, zWg a0 a1 R n10 0)) := by kernel_rfl
theorem zmm (a0 : MdlD) (a1 : ConD) (R : D → Prop) (n4 : Nat) (v7 : Int) : zYg a0 a1 R (n4 + 1) v7 =
 (sel (decide (v7 < (a1.consts.length : Int)))
 (inb v7 a1.consts.length = true ∧
 Call1 Tryz.prog zpc [dI (at' .int a1.consts v7.toNat)] .bool fun c8 =>
 sel (!c8)
 (R (dI 3))
 (zYg a0 a1 R n4 (w64 (v7 + 1))))
 (Call1 Tryz.prog zpc [dI a1.n] .bool fun c9 =>
 sel (!c9)
 (R (dI 3))
 (∃ n6, zXg a0 a1 R n6 0))) := by kernel_rfl
theorem znm (a0 : MdlD) (a1 : ConD) (R : D → Prop) (n2 : Nat) (v5 : Int) : zZg a0 a1 R (n2 + 1) v5 =
 (sel (decide (v5 < (a1.lits.length : Int)))
 (inb v5 a1.lits.length = true ∧
 Call1 Tryz.prog zy [dI ((at' .lit a1.lits v5.toNat).var), dI 0, dI (w64 ((a0.vars.length : Int) - 1))] .bool fun c6 =>
 sel (!c6)
 (R (dI 5))
 (zZg a0 a1 R n2 (w64 (v5 + 1))))
 (∃ n4, zYg a0 a1 R n4 0)) := by kernel_rfl
theorem zom (a0 : MdlD) (a1 : ConD) (R : D → Prop) (n0 : Nat) (v3 : Int) : z0g a0 a1 R (n0 + 1) v3 =
 (sel (decide (v3 < (a1.vars.length : Int)))
 (inb v3 a1.vars.length = true ∧
 Call1 Tryz.prog zy [dI (at' .int a1.vars v3.toNat), dI 0, dI (w64 ((a0.vars.length : Int) - 1))] .bool fun c4 =>
 sel (!c4)
 (R (dI 5))
 (z0g a0 a1 R n0 (w64 (v3 + 1))))
 (∃ n2, zZg a0 a1 R n2 0)) := by kernel_rfl
theorem z7t (a0 : MdlD) (a1 : ConD) (R : D → Prop) : FD zC Tryz.f41 [dM a0, dC a1] R =
 (Call1 Tryz.prog zy [dI a1.kind, dI 1, dI 10] .bool fun c1 =>
 sel (!c1)
 (R (dI 7))
 (sel (decide (4 < (a1.vars.length : Int)))
 (R (dI 2))
 (sel (decide (4 < (a1.lits.length : Int)))
 (R (dI 2))
 (sel (decide (8 < (a1.consts.length : Int)))
 (R (dI 2))
 (sel (decide (20 < (a1.rows.length : Int)))
 (R (dI 2))
 (Call1 Tryz.prog znf [dC a1] .bool fun c2 =>
 sel (!c2)
 (R (dI 1))
 (∃ n0, z0g a0 a1 R n0 0))))))) := by kernel_rfl
theorem z8t (a0 : MdlD) (a1 : ConD) : SatI zC Tryz.f41 zcf [dM a0, dC a1] := satD Tryz.func41 (by kernel_rfl) Tryz.ntmps41 rfl
def zc : Ann := { own := [5, 33], live := [(0, ([1, 2, 5, 6], [5])), (2, ([1, 2, 5, 7, 8], [5])), (5, ([5, 9], [5])), (7, ([5, 9, 10], [5])), (9, ([2, 5, 11], [5])), (11, ([2, 5, 12], [5])), (13, ([5, 13, 14], [5])), (15, ([1, 2, 15], []))], n := 222, nils := [], pubs := [] }
def z9t (R : D → Prop) (l2 : List Int) (n5 : Nat) (v5 : Int) : Prop := LP zc Tryz.f44 [1, 1, 1, 1, 1, 0, 1, 0, 1, 1, 1, 1, 1, 1, 1, 0, 0, 1, 0, 0] 5 n5 ⟨[(5, .own 5), (9, dI v5)], [(5, .row 3 .int l2)]⟩ (blockK 5 (sK zc Tryz.f44 [1, 1, 1, 1, 1, 0, 1, 0, 1, 1, 1, 1, 1, 1, 1, 0, 1] 4 (blockK 4 (sK zc Tryz.f44 [1, 1, 1, 1, 1, 1] 0 (eK Tryz.f44 R)))))
def zau (a0 : ConD) (R : D → Prop) (l2 : List Int) (n9 : Nat) (v7 : Int) : Prop := LP zc Tryz.f44 [1, 1, 1, 1, 1, 0, 1, 0, 1, 1, 1, 1, 1, 1, 1, 1, 1, 0, 0, 1, 0, 0] 9 n9 ⟨[(2, .iptr [dI a0.kind, .sl .int a0.vars, .sl .int a0.consts, dI a0.n, dS a0.rows, .sl .lit a0.lits] 0), (5, .own 5), (11, dI v7)], [(5, .row 3 .int l2)]⟩ (blockK 9 (sK zc Tryz.f44 [1, 1, 1, 1, 1, 0, 1, 0, 1, 1, 1, 1, 1, 1, 1, 1, 1, 0, 1] 4 (blockK 4 (sK zc Tryz.f44 [1, 1, 1, 1, 1, 1] 0 (eK Tryz.f44 R)))))
def zbu (a0 : ConD) (R : D → Prop) (l2 : List Int) (n11 : Nat) (v8 : Int) : Prop := LP zc Tryz.f44 [1, 1, 1, 1, 1, 0, 1, 0, 1, 1, 1, 1, 1, 1, 1, 1, 1, 1, 1, 0, 0, 1, 0, 0] 11 n11 ⟨[(2, .iptr [dI a0.kind, .sl .int a0.vars, .sl .int a0.consts, dI a0.n, dS a0.rows, .sl .lit a0.lits] 0), (5, .own 5), (12, dI v8)], [(5, .row 3 .int l2)]⟩ (blockK 11 (sK zc Tryz.f44 [1, 1, 1, 1, 1, 0, 1, 0, 1, 1, 1, 1, 1, 1, 1, 1, 1, 1, 1, 0, 1] 4 (blockK 4 (sK zc Tryz.f44 [1, 1, 1, 1, 1, 1] 0 (eK Tryz.f44 R)))))
def zcu (R : D → Prop) (l2 : List Int) (n13 : Nat) (v10 : Bool) (v11 : Int) : Prop := LP zc Tryz.f44 [1, 1, 1, 1, 1, 0, 1, 0, 1, 1, 1, 1, 1, 1, 1, 1, 1, 1, 1, 1, 1, 1, 1, 0, 1, 0, 1, 0, 0] 13 n13 ⟨[(5, .own 5), (13, dB v10), (14, dI v11)], [(5, .row 3 .int l2)]⟩ (blockK 13 (sK zc Tryz.f44 [1, 1, 1, 1, 1, 0, 1, 0, 1, 1, 1, 1, 1, 1, 1, 1, 1, 1, 1, 1, 1, 1, 1, 0, 1, 1] 4 (blockK 4 (sK zc Tryz.f44 [1, 1, 1, 1, 1, 1] 0 (eK Tryz.f44 R)))))
def zdu (a0 : ConD) (a1 : List Int) (R : D → Prop) (n15 : Nat) (v12 : Int) : Prop := LP zc Tryz.f44 [1, 1, 1, 1, 1, 0, 1, 0, 1, 1, 1, 1, 1, 1, 1, 1, 1, 1, 1, 1, 1, 1, 1, 1, 1, 0, 0, 1, 0, 0] 15 n15 ⟨[(1, .sl .int a1), (2, .iptr [dI a0.kind, .sl .int a0.vars, .sl .int a0.consts, dI a0.n, dS a0.rows, .sl .lit a0.lits] 0), (15, dI v12)], []⟩ (blockK 15 (sK zc Tryz.f44 [1, 1, 1, 1, 1, 0, 1, 0, 1, 1, 1, 1, 1, 1, 1, 1, 1, 1, 1, 1, 1, 1, 1, 1, 1, 0, 1] 4 (blockK 4 (sK zc Tryz.f44 [1, 1, 1, 1, 1, 1] 0 (eK Tryz.f44 R)))))
def z1g (a0 : ConD) (a1 : List Int) (R : D → Prop) (l2 : List Int) (n2 : Nat) (v3 : Int) (v4 : Int) : Prop := LP zc Tryz.f44 [1, 1, 1, 1, 0, 1, 0, 1, 0, 0] 2 n2 ⟨[(1, .sl .int a1), (2, .iptr [dI a0.kind, .sl .int a0.vars, .sl .int a0.consts, dI a0.n, dS a0.rows, .sl .lit a0.lits] 0), (5, .own 5), (7, dI v3), (8, dI v4)], [(5, .row 3 .int l2)]⟩ (blockK 2 (sK zc Tryz.f44 [1, 1, 1, 1, 1] 0 (eK Tryz.f44 R)))
def z2g (R : D → Prop) (l2 : List Int) (n5_2 : Nat) (v15 : Int) (n7_2 : Nat) (v16 : Int) : Prop := LP zc Tryz.f44 [1, 1, 1, 1, 1, 0, 1, 0, 1, 1, 1, 1, 1, 1, 1, 0, 0, 1, 0, 0, 1, 0, 0, 1, 0, 0] 7 n7_2 ⟨[(5, .own 5), (9, dI v15), (10, dI v16)], [(5, .row 3 .int l2)]⟩ (blockK 7 (blockK 6 (sK zc Tryz.f44 [1, 1, 1, 1, 1, 0, 1, 0, 1, 1, 1, 1, 1, 1, 1, 0, 0, 1, 0, 0, 1, 1] 5 (iK zc Tryz.f44 [1, 1, 1, 1, 1, 0, 1, 0, 1, 1, 1, 1, 1, 1, 1, 0, 0, 1, 0, 0] 5 n5_2 (blockK 5 (sK zc Tryz.f44 [1, 1, 1, 1, 1, 0, 1, 0, 1, 1, 1, 1, 1, 1, 1, 0, 1] 4 (blockK 4 (sK zc Tryz.f44 [1, 1, 1, 1, 1, 1] 0 (eK Tryz.f44 R)))))))))
def z3g (R : D → Prop) (l2 : List Int) (n5_2 : Nat) (v15 : Int) : Prop := LP zc Tryz.f44 [1, 1, 1, 1, 1, 0, 1, 0, 1, 1, 1, 1, 1, 1, 1, 0, 0, 1, 0, 0] 5 n5_2 ⟨[(5, .own 5), (9, dI v15)], [(5, .row 3 .int l2)]⟩ (blockK 5 (sK zc Tryz.f44 [1, 1, 1, 1, 1, 0, 1, 0, 1, 1, 1, 1, 1, 1, 1, 0, 1] 4 (blockK 4 (sK zc Tryz.f44 [1, 1, 1, 1, 1, 1] 0 (eK Tryz.f44 R)))))
def z4g (a0 : ConD) (R : D → Prop) (l2 : List Int) (n9_2 : Nat) (v17 : Int) : Prop := LP zc Tryz.f44 [1, 1, 1, 1, 1, 0, 1, 0, 1, 1, 1, 1, 1, 1, 1, 1, 1, 0, 0, 1, 0, 0] 9 n9_2 ⟨[(2, .iptr [dI a0.kind, .sl .int a0.vars, .sl .int a0.consts, dI a0.n, dS a0.rows, .sl .lit a0.lits] 0), (5, .own 5), (11, dI v17)], [(5, .row 3 .int l2)]⟩ (blockK 9 (sK zc Tryz.f44 [1, 1, 1, 1, 1, 0, 1, 0, 1, 1, 1, 1, 1, 1, 1, 1, 1, 0, 1] 4 (blockK 4 (sK zc Tryz.f44 [1, 1, 1, 1, 1, 1] 0 (eK Tryz.f44 R)))))
def z5g (a0 : ConD) (R : D → Prop) (l2 : List Int) (n11_2 : Nat) (v18 : Int) : Prop := LP zc Tryz.f44 [1, 1, 1, 1, 1, 0, 1, 0, 1, 1, 1, 1, 1, 1, 1, 1, 1, 1, 1, 0, 0, 1, 0, 0] 11 n11_2 ⟨[(2, .iptr [dI a0.kind, .sl .int a0.vars, .sl .int a0.consts, dI a0.n, dS a0.rows, .sl .lit a0.lits] 0), (5, .own 5), (12, dI v18)], [(5, .row 3 .int l2)]⟩ (blockK 11 (sK zc Tryz.f44 [1, 1, 1, 1, 1, 0, 1, 0, 1, 1, 1, 1, 1, 1, 1, 1, 1, 1, 1, 0, 1] 4 (blockK 4 (sK zc Tryz.f44 [1, 1, 1, 1, 1, 1] 0 (eK Tryz.f44 R)))))
def z2d (R : D → Prop) (l2 : List Int) (n13_2 : Nat) (v20 : Bool) (v21 : Int) : Prop := LP zc Tryz.f44 [1, 1, 1, 1, 1, 0, 1, 0, 1, 1, 1, 1, 1, 1, 1, 1, 1, 1, 1, 1, 1, 1, 1, 0, 1, 0, 1, 0, 0] 13 n13_2 ⟨[(5, .own 5), (13, dB v20), (14, dI v21)], [(5, .row 3 .int l2)]⟩ (blockK 13 (sK zc Tryz.f44 [1, 1, 1, 1, 1, 0, 1, 0, 1, 1, 1, 1, 1, 1, 1, 1, 1, 1, 1, 1, 1, 1, 1, 0, 1, 1] 4 (blockK 4 (sK zc Tryz.f44 [1, 1, 1, 1, 1, 1] 0 (eK Tryz.f44 R)))))
def z6g (a0 : ConD) (a1 : List Int) (R : D → Prop) (n15_2 : Nat) (v22 : Int) : Prop := LP zc Tryz.f44 [1, 1, 1, 1, 1, 0, 1, 0, 1, 1, 1, 1, 1, 1, 1, 1, 1, 1, 1, 1, 1, 1, 1, 1, 1, 0, 0, 1, 0, 0] 15 n15_2 ⟨[(1, .sl .int a1), (2, .iptr [dI a0.kind, .sl .int a0.vars, .sl .int a0.consts, dI a0.n, dS a0.rows, .sl .lit a0.lits] 0), (15, dI v22)], []⟩ (blockK 15 (sK zc Tryz.f44 [1, 1, 1, 1, 1, 0, 1, 0, 1, 1, 1, 1, 1, 1, 1, 1, 1, 1, 1, 1, 1, 1, 1, 1, 1, 0, 1] 4 (blockK 4 (sK zc Tryz.f44 [1, 1, 1, 1, 1, 1] 0 (eK Tryz.f44 R)))))
def z7g (a0 : ConD) (a1 : List Int) (R : D → Prop) (n0 : Nat) (v1 : Int) (l2 : List Int) : Prop := LP zc Tryz.f44 [1, 1, 0, 1, 0, 0] 0 n0 ⟨[(1, .sl .int a1), (2, .iptr [dI a0.kind, .sl .int a0.vars, .sl .int a0.consts, dI a0.n, dS a0.rows, .sl .lit a0.lits] 0), (5, .own 5), (6, dI v1)], [(5, .row 3 .int l2)]⟩ (blockK 0 (sK zc Tryz.f44 [1, 1, 1] 0 (eK Tryz.f44 R)))
theorem zeu (a0 : ConD) (a1 : List Int) (R : D → Prop) (l2 : List Int) (n2 : Nat) (v3 : Int) (v4 : Int) : z1g a0 a1 R l2 (n2 + 1) v3 v4 =
 (sel (decide (v4 < (l2.length : Int)))
 (inb v4 l2.length = true ∧
 inb v4 a0.consts.length = true ∧
 z1g a0 a1 R l2 n2 (w64 (v3 + (w64 ((at' .int l2 v4.toNat) * (at' .int a0.consts v4.toNat))))) (w64 (v4 + 1)))
 (sel (decide (a0.kind = 1))
 (R (dB (decide (v3 ≤ a0.n))))
 (sel (decide (a0.kind = 2))
 (R (dB (decide (v3 = a0.n))))
 (sel (decide (a0.kind = 3))
 (R (dB (!decide (v3 = a0.n))))
 (sel (decide (a0.kind = 4))
 (∃ n5, z9t R l2 n5 0)
 (sel (decide (a0.kind = 5))
 (∃ n9, zau a0 R l2 n9 0)
 (sel (decide (a0.kind = 6))
 (∃ n11, zbu a0 R l2 n11 0)
 (sel (decide (a0.kind = 7))
 (inb 0 l2.length = true ∧
 inb 1 l2.length = true ∧
 inb 2 l2.length = true ∧
 R (dB (decide ((w64 ((at' .int l2 0) * (at' .int l2 1))) = (at' .int l2 2)))))
 (sel (decide (a0.kind = 8))
 (∃ n13, zcu R l2 n13 false 1)
 (sel (decide (a0.kind = 9))
 (∃ n15, zdu a0 a1 R n15 0)
 (inb 0 a0.lits.length = true ∧
 inb 0 a0.lits.length = true ∧
 inb ((at' .lit a0.lits 0).var) a1.length = true ∧
 Call1 Tryz.prog zyb [dL (at' .lit a0.lits 0), dI (at' .int a1 (((at' .lit a0.lits 0).var).toNat))] .bool fun c14 =>
 sel c14
 (inb 0 l2.length = true ∧
 R (dB (decide ((at' .int l2 0) = 1))))
 (inb 0 l2.length = true ∧
 R (dB (decide ((at' .int l2 0) = 0))))))))))))))) := by kernel_rfl
theorem zfu (R : D → Prop) (l2 : List Int) (n5_2 : Nat) (v15 : Int) (n7_2 : Nat) (v16 : Int) : z2g R l2 n5_2 v15 (n7_2 + 1) v16 =
 (sel (decide (v16 < v15))
 (inb v15 l2.length = true ∧
 inb v16 l2.length = true ∧
 sel (decide ((at' .int l2 v15.toNat) = (at' .int l2 v16.toNat)))
 (R (dB false))
 (z2g R l2 n5_2 v15 n7_2 (w64 (v16 + 1))))
 (z3g R l2 n5_2 (w64 (v15 + 1)))) := by kernel_rfl
theorem zgu (R : D → Prop) (l2 : List Int) (n5_2 : Nat) (v15 : Int) : z3g R l2 (n5_2 + 1) v15 =
 (sel (decide (v15 < (l2.length : Int)))
 (∃ n7_2, z2g R l2 n5_2 v15 n7_2 0)
 (R (dB true))) := by kernel_rfl
theorem zhu (a0 : ConD) (R : D → Prop) (l2 : List Int) (n9_2 : Nat) (v17 : Int) : z4g a0 R l2 (n9_2 + 1) v17 =
 (sel (decide (v17 < (a0.consts.length : Int)))
 (inb 0 l2.length = true ∧
 sel (decide ((at' .int l2 0) = v17))
 (inb v17 a0.consts.length = true ∧
 inb 1 l2.length = true ∧
 R (dB (decide ((at' .int a0.consts v17.toNat) = (at' .int l2 1)))))
 (z4g a0 R l2 n9_2 (w64 (v17 + 1))))
 (R (dB false))) := by kernel_rfl
theorem zpm (a0 : ConD) (R : D → Prop) (l2 : List Int) (n11_2 : Nat) (v18 : Int) : z5g a0 R l2 (n11_2 + 1) v18 =
 (sel (decide (v18 < (a0.rows.length : Int)))
 (inb v18 a0.rows.length = true ∧
 Call1 Tryz.prog zQc [.sl .int (at' (.list .int) a0.rows v18.toNat), .sl .int l2] .bool fun c19 =>
 sel c19
 (R (dB true))
 (z5g a0 R l2 n11_2 (w64 (v18 + 1))))
 (R (dB false))) := by kernel_rfl
theorem ziu (R : D → Prop) (l2 : List Int) (n13_2 : Nat) (v20 : Bool) (v21 : Int) : z2d R l2 (n13_2 + 1) v20 v21 =
 (sel (decide (v21 < (l2.length : Int)))
 (inb v21 l2.length = true ∧
 inb 0 l2.length = true ∧
 sel (decide ((at' .int l2 0) < (at' .int l2 v21.toNat)))
 (R (dB false))
 (sel v20
 (z2d R l2 n13_2 true (w64 (v21 + 1)))
 (inb v21 l2.length = true ∧
 inb 0 l2.length = true ∧
 z2d R l2 n13_2 (decide ((at' .int l2 v21.toNat) = (at' .int l2 0))) (w64 (v21 + 1)))))
 (R (dB v20))) := by kernel_rfl
theorem zqm (a0 : ConD) (a1 : List Int) (R : D → Prop) (n15_2 : Nat) (v22 : Int) : z6g a0 a1 R (n15_2 + 1) v22 =
 (sel (decide (v22 < (a0.lits.length : Int)))
 (inb v22 a0.lits.length = true ∧
 inb v22 a0.lits.length = true ∧
 inb ((at' .lit a0.lits v22.toNat).var) a1.length = true ∧
 Call1 Tryz.prog zyb [dL (at' .lit a0.lits v22.toNat), dI (at' .int a1 (((at' .lit a0.lits v22.toNat).var).toNat))] .bool fun c23 =>
 sel c23
 (R (dB true))
 (z6g a0 a1 R n15_2 (w64 (v22 + 1))))
 (R (dB false))) := by kernel_rfl
theorem zju (a0 : ConD) (a1 : List Int) (R : D → Prop) (n0 : Nat) (v1 : Int) (l2 : List Int) : z7g a0 a1 R (n0 + 1) v1 l2 =
 (sel (decide (v1 < (a0.vars.length : Int)))
 (inb v1 a0.vars.length = true ∧
 inb (at' .int a0.vars v1.toNat) a1.length = true ∧
 room .int (l2.length + ([at' .int a1 ((at' .int a0.vars v1.toNat).toNat)]).length) = true ∧
 z7g a0 a1 R n0 (w64 (v1 + 1)) (l2 ++ ([at' .int a1 ((at' .int a0.vars v1.toNat).toNat)])))
 (sel (decide (a0.kind ≤ 3))
 (∃ n2, z1g a0 a1 R l2 n2 0 0)
 (sel (decide (a0.kind = 1))
 (R (dB (decide (0 ≤ a0.n))))
 (sel (decide (a0.kind = 2))
 (R (dB (decide (0 = a0.n))))
 (sel (decide (a0.kind = 3))
 (R (dB (!decide (0 = a0.n))))
 (sel (decide (a0.kind = 4))
 (∃ n5_2, z3g R l2 n5_2 0)
 (sel (decide (a0.kind = 5))
 (∃ n9_2, z4g a0 R l2 n9_2 0)
 (sel (decide (a0.kind = 6))
 (∃ n11_2, z5g a0 R l2 n11_2 0)
 (sel (decide (a0.kind = 7))
 (inb 0 l2.length = true ∧
 inb 1 l2.length = true ∧
 inb 2 l2.length = true ∧
 R (dB (decide ((w64 ((at' .int l2 0) * (at' .int l2 1))) = (at' .int l2 2)))))
 (sel (decide (a0.kind = 8))
 (∃ n13_2, z2d R l2 n13_2 false 1)
 (sel (decide (a0.kind = 9))
 (∃ n15_2, z6g a0 a1 R n15_2 0)
 (inb 0 a0.lits.length = true ∧
 inb 0 a0.lits.length = true ∧
 inb ((at' .lit a0.lits 0).var) a1.length = true ∧
 Call1 Tryz.prog zyb [dL (at' .lit a0.lits 0), dI (at' .int a1 (((at' .lit a0.lits 0).var).toNat))] .bool fun c24 =>
 sel c24
 (inb 0 l2.length = true ∧
 R (dB (decide ((at' .int l2 0) = 1))))
 (inb 0 l2.length = true ∧
 R (dB (decide ((at' .int l2 0) = 0)))))))))))))))) := by kernel_rfl
theorem zku (a0 : ConD) (a1 : List Int) (R : D → Prop) : FD zc Tryz.f44 [dC a0, .sl .int a1] R =
 (∃ n0, z7g a0 a1 R n0 0 ([] : List Int)) := by kernel_rfl
theorem zlu (a0 : ConD) (a1 : List Int) : SatI zc Tryz.f44 zTc [dC a0, .sl .int a1] := satD Tryz.func44 (by kernel_rfl) Tryz.ntmps44 rfl
def z8g : Ann := { own := [], live := [(0, ([1, 2, 5], []))], n := 25, nils := [], pubs := [] }
def z9g (a0 : MdlD) (a1 : List (List LitD)) (R : D → Prop) (n0 : Nat) (i1 : Int) : Prop := LP z8g Tryz.f45 [1, 1, 0, 1, 0, 0] 0 n0 ⟨[(1, .sl (.list .lit) a1), (2, .iptr [.sl .var a0.vars, .sl .con a0.cons, dI a0.goal, dI a0.var] 0), (5, dI i1)], []⟩ (blockK 0 (sK z8g Tryz.f45 [1, 1, 1] 0 (eK Tryz.f45 R)))
theorem zrm (a0 : MdlD) (a1 : List (List LitD)) (R : D → Prop) (n0 : Nat) (i1 : Int) : z9g a0 a1 R (n0 + 1) i1 =
 (sel (decide (i1 < (a1.length : Int)))
 (inb i1 a1.length = true ∧
 Call1 Tryz.prog zHd [dM a0, .sl .lit (at' (.list .lit) a1 i1.toNat)] .int fun c2 =>
 sel (!decide (c2 = 0))
 (R (dI c2))
 (z9g a0 a1 R n0 (w64 (i1 + 1))))
 (R (dI 0))) := by kernel_rfl
theorem zmu (a0 : MdlD) (a1 : List (List LitD)) (R : D → Prop) : FD z8g Tryz.f45 [dM a0, .sl (.list .lit) a1] R =
 (sel (decide (600 < (a1.length : Int)))
 (R (dI 2))
 (∃ n0, z9g a0 a1 R n0 0)) := by kernel_rfl
theorem znu (a0 : MdlD) (a1 : List (List LitD)) : SatI z8g Tryz.f45 zef [dM a0, .sl (.list .lit) a1] := satD Tryz.func45 (by kernel_rfl) Tryz.ntmps45 rfl
def zah : Ann := { own := [], live := [(0, ([1, 2, 5], []))], n := 25, nils := [], pubs := [] }
def zbh (a0 : MdlD) (a1 : List LitD) (R : D → Prop) (n0 : Nat) (i1 : Int) : Prop := LP zah Tryz.f46 [1, 1, 0, 1, 0, 0] 0 n0 ⟨[(1, .sl .lit a1), (2, .iptr [.sl .var a0.vars, .sl .con a0.cons, dI a0.goal, dI a0.var] 0), (5, dI i1)], []⟩ (blockK 0 (sK zah Tryz.f46 [1, 1, 1] 0 (eK Tryz.f46 R)))
theorem zsm (a0 : MdlD) (a1 : List LitD) (R : D → Prop) (n0 : Nat) (i1 : Int) : zbh a0 a1 R (n0 + 1) i1 =
 (sel (decide (i1 < (a1.length : Int)))
 (inb i1 a1.length = true ∧
 Call1 Tryz.prog zVc [dM a0, dL (at' .lit a1 i1.toNat)] .int fun c2 =>
 sel (!decide (c2 = 0))
 (R (dI c2))
 (zbh a0 a1 R n0 (w64 (i1 + 1))))
 (R (dI 0))) := by kernel_rfl
theorem zou (a0 : MdlD) (a1 : List LitD) (R : D → Prop) : FD zah Tryz.f46 [dM a0, .sl .lit a1] R =
 (sel (decide (40 < (a1.length : Int)))
 (R (dI 2))
 (∃ n0, zbh a0 a1 R n0 0)) := by kernel_rfl
theorem zpu (a0 : MdlD) (a1 : List LitD) : SatI zah Tryz.f46 zHd [dM a0, .sl .lit a1] := satD Tryz.func46 (by kernel_rfl) Tryz.ntmps46 rfl
def zch : Ann := { own := [9, 11, 13, 58], live := [(0, ([2, 3, 7, 8], [11]))], n := 59, nils := [], pubs := [] }
def zyc (a0 : MdlD) (a2 : List StepD) (R : D → Prop) (n0 : Nat) (i1 : Int) (l2 : List (List LitD)) : Prop := LP zch Tryz.f47 [1, 1, 0, 1, 0, 0] 0 n0 ⟨[(2, .sl .step a2), (3, .iptr [.sl .var a0.vars, .sl .con a0.cons, dI a0.goal, dI a0.var] 0), (7, .own 11), (8, dI i1)], [(11, .row 47 (.list .lit) l2)]⟩ (blockK 0 (sK zch Tryz.f47 [1, 1, 1] 0 (eK Tryz.f47 R)))
theorem zqu (a0 : MdlD) (a2 : List StepD) (R : D → Prop) (n0 : Nat) (i1 : Int) (l2 : List (List LitD)) : zyc a0 a2 R (n0 + 1) i1 l2 =
 (sel (decide (i1 < (a2.length : Int)))
 (inb i1 a2.length = true ∧
 sel (decide (((at' .step a2 i1.toNat).kind) = 1))
 (Call1 Tryz.prog zof [dM a0, dI ((at' .step a2 i1.toNat).con), .sl .lit ((at' .step a2 i1.toNat).clause)] .bool fun c3 =>
 sel c3
 (room (.list .lit) (l2.length + ([(at' .step a2 i1.toNat).clause]).length) = true ∧
 zyc a0 a2 R n0 (w64 (i1 + 1)) (l2 ++ ([(at' .step a2 i1.toNat).clause])))
 (sel (decide (((at' .step a2 i1.toNat).kind) = 2))
 (sel (decide (((at' .step a2 i1.toNat).con) = 0))
 (Call1 Tryz.prog zJd [dM a0, .sl (.list .lit) l2, .sl .lit ((at' .step a2 i1.toNat).clause)] .bool fun c4 =>
 sel (!c4)
 (R (dB false))
 (room (.list .lit) (l2.length + ([(at' .step a2 i1.toNat).clause]).length) = true ∧
 zyc a0 a2 R n0 (w64 (i1 + 1)) (l2 ++ ([(at' .step a2 i1.toNat).clause]))))
 (R (dB false)))
 (R (dB false))))
 (sel (decide (((at' .step a2 i1.toNat).kind) = 2))
 (sel (decide (((at' .step a2 i1.toNat).con) = 0))
 (Call1 Tryz.prog zJd [dM a0, .sl (.list .lit) l2, .sl .lit ((at' .step a2 i1.toNat).clause)] .bool fun c5 =>
 sel (!c5)
 (R (dB false))
 (room (.list .lit) (l2.length + ([(at' .step a2 i1.toNat).clause]).length) = true ∧
 zyc a0 a2 R n0 (w64 (i1 + 1)) (l2 ++ ([(at' .step a2 i1.toNat).clause]))))
 (R (dB false)))
 (R (dB false))))
 (R (dB true))) := by kernel_rfl
theorem zru (a0 : MdlD) (a1 : List (List LitD)) (a2 : List StepD) (R : D → Prop) : FD zch Tryz.f47 [dM a0, .sl (.list .lit) a1, .sl .step a2] R =
 (room (.list .lit) (([] : List (List LitD)).length + a1.length) = true ∧
 ∃ n0, zyc a0 a2 R n0 0 (([] : List (List LitD)) ++ a1)) := by kernel_rfl
theorem zsu (a0 : MdlD) (a1 : List (List LitD)) (a2 : List StepD) : SatI zch Tryz.f47 zff [dM a0, .sl (.list .lit) a1, .sl .step a2] := satD Tryz.func47 (by kernel_rfl) Tryz.ntmps47 rfl
def z4b : Ann := { own := [], live := [(1, ([1, 3, 4, 5, 6, 7], []))], n := 164, nils := [], pubs := [] }
def zdh (a0 : ConD) (R : D → Prop) (n1 : Nat) (v1 : Int) : Prop := LP z4b Tryz.f67 [1, 1, 1, 0, 1, 0, 1, 1, 1, 1, 1, 1, 1, 0, 0, 1, 0, 0] 1 n1 ⟨[(1, .iptr [dI a0.kind, .sl .int a0.vars, .sl .int a0.consts, dI a0.n, dS a0.rows, .sl .lit a0.lits] 0), (3, dI (a0.vars.length : Int)), (4, dI (a0.consts.length : Int)), (5, dI (a0.rows.length : Int)), (6, dI (a0.lits.length : Int)), (7, dI v1)], []⟩ (blockK 1 (sK z4b Tryz.f67 [1, 1, 1, 0, 1, 0, 1, 1, 1, 1, 1, 1, 1, 0, 1] 0 (blockK 0 (sK z4b Tryz.f67 [1, 1, 1, 1] 0 (eK Tryz.f67 R)))))
def ztu (a0 : ConD) (R : D → Prop) (n1_2 : Nat) (v2 : Int) : Prop := LP z4b Tryz.f67 [1, 1, 1, 0, 1, 0, 1, 1, 1, 1, 1, 1, 1, 0, 0, 1, 0, 0] 1 n1_2 ⟨[(1, .iptr [dI a0.kind, .sl .int a0.vars, .sl .int a0.consts, dI a0.n, dS a0.rows, .sl .lit a0.lits] 0), (3, dI (a0.vars.length : Int)), (4, dI (a0.consts.length : Int)), (5, dI (a0.rows.length : Int)), (6, dI (a0.lits.length : Int)), (7, dI v2)], []⟩ (blockK 1 (sK z4b Tryz.f67 [1, 1, 1, 0, 1, 0, 1, 1, 1, 1, 1, 1, 1, 0, 1] 0 (blockK 0 (sK z4b Tryz.f67 [1, 1, 1, 1] 0 (eK Tryz.f67 R)))))
theorem ztm (a0 : ConD) (R : D → Prop) (n1 : Nat) (v1 : Int) : zdh a0 R (n1 + 1) v1 =
 (sel (decide (v1 < (a0.rows.length : Int)))
 (inb v1 a0.rows.length = true ∧
 sel (!decide (((at' (.list .int) a0.rows v1.toNat).length : Int) = (a0.vars.length : Int)))
 (R (dB false))
 (zdh a0 R n1 (w64 (v1 + 1))))
 (sel (decide (1 ≤ (a0.vars.length : Int)))
 (sel (decide ((a0.consts.length : Int) = 0))
 (R (dB (decide ((a0.lits.length : Int) = 0))))
 (R (dB false)))
 (R (dB false)))) := by kernel_rfl
theorem zuu (a0 : ConD) (R : D → Prop) : FD z4b Tryz.f67 [dC a0] R =
 (sel (decide (3 < a0.kind))
 (sel (!decide (a0.n = 0))
 (R (dB false))
 (sel (decide (a0.kind = 1))
 (sel (decide (1 ≤ (a0.vars.length : Int)))
 (sel (decide ((a0.consts.length : Int) = (a0.vars.length : Int)))
 (sel (decide ((a0.rows.length : Int) = 0))
 (R (dB (decide ((a0.lits.length : Int) = 0))))
 (R (dB false)))
 (R (dB false)))
 (R (dB false)))
 (sel (decide (a0.kind = 2))
 (sel (decide (1 ≤ (a0.vars.length : Int)))
 (sel (decide ((a0.consts.length : Int) = (a0.vars.length : Int)))
 (sel (decide ((a0.rows.length : Int) = 0))
 (R (dB (decide ((a0.lits.length : Int) = 0))))
 (R (dB false)))
 (R (dB false)))
 (R (dB false)))
 (sel (decide (a0.kind = 3))
 (sel (decide (1 ≤ (a0.vars.length : Int)))
 (sel (decide ((a0.consts.length : Int) = (a0.vars.length : Int)))
 (sel (decide ((a0.rows.length : Int) = 0))
 (R (dB (decide ((a0.lits.length : Int) = 0))))
 (R (dB false)))
 (R (dB false)))
 (R (dB false)))
 (sel (decide (a0.kind = 4))
 (sel (decide (1 ≤ (a0.vars.length : Int)))
 (sel (decide ((a0.consts.length : Int) = 0))
 (sel (decide ((a0.rows.length : Int) = 0))
 (R (dB (decide ((a0.lits.length : Int) = 0))))
 (R (dB false)))
 (R (dB false)))
 (R (dB false)))
 (sel (decide (a0.kind = 5))
 (sel (decide ((a0.vars.length : Int) = 2))
 (sel (decide (1 ≤ (a0.consts.length : Int)))
 (sel (decide ((a0.rows.length : Int) = 0))
 (R (dB (decide ((a0.lits.length : Int) = 0))))
 (R (dB false)))
 (R (dB false)))
 (R (dB false)))
 (sel (decide (a0.kind = 6))
 (∃ n1, zdh a0 R n1 0)
 (sel (decide (a0.kind = 7))
 (sel (decide ((a0.vars.length : Int) = 3))
 (sel (decide ((a0.consts.length : Int) = 0))
 (sel (decide ((a0.rows.length : Int) = 0))
 (R (dB (decide ((a0.lits.length : Int) = 0))))
 (R (dB false)))
 (R (dB false)))
 (R (dB false)))
 (sel (decide (a0.kind = 8))
 (sel (decide (2 ≤ (a0.vars.length : Int)))
 (sel (decide ((a0.consts.length : Int) = 0))
 (sel (decide ((a0.rows.length : Int) = 0))
 (R (dB (decide ((a0.lits.length : Int) = 0))))
 (R (dB false)))
 (R (dB false)))
 (R (dB false)))
 (sel (decide (a0.kind = 9))
 (sel (decide ((a0.vars.length : Int) = 0))
 (sel (decide ((a0.consts.length : Int) = 0))
 (R (dB (decide ((a0.rows.length : Int) = 0))))
 (R (dB false)))
 (R (dB false)))
 (sel (decide ((a0.vars.length : Int) = 1))
 (sel (decide ((a0.consts.length : Int) = 0))
 (sel (decide ((a0.rows.length : Int) = 0))
 (R (dB (decide ((a0.lits.length : Int) = 1))))
 (R (dB false)))
 (R (dB false)))
 (R (dB false)))))))))))))
 (sel (decide (a0.kind = 1))
 (sel (decide (1 ≤ (a0.vars.length : Int)))
 (sel (decide ((a0.consts.length : Int) = (a0.vars.length : Int)))
 (sel (decide ((a0.rows.length : Int) = 0))
 (R (dB (decide ((a0.lits.length : Int) = 0))))
 (R (dB false)))
 (R (dB false)))
 (R (dB false)))
 (sel (decide (a0.kind = 2))
 (sel (decide (1 ≤ (a0.vars.length : Int)))
 (sel (decide ((a0.consts.length : Int) = (a0.vars.length : Int)))
 (sel (decide ((a0.rows.length : Int) = 0))
 (R (dB (decide ((a0.lits.length : Int) = 0))))
 (R (dB false)))
 (R (dB false)))
 (R (dB false)))
 (sel (decide (a0.kind = 3))
 (sel (decide (1 ≤ (a0.vars.length : Int)))
 (sel (decide ((a0.consts.length : Int) = (a0.vars.length : Int)))
 (sel (decide ((a0.rows.length : Int) = 0))
 (R (dB (decide ((a0.lits.length : Int) = 0))))
 (R (dB false)))
 (R (dB false)))
 (R (dB false)))
 (sel (decide (a0.kind = 4))
 (sel (decide (1 ≤ (a0.vars.length : Int)))
 (sel (decide ((a0.consts.length : Int) = 0))
 (sel (decide ((a0.rows.length : Int) = 0))
 (R (dB (decide ((a0.lits.length : Int) = 0))))
 (R (dB false)))
 (R (dB false)))
 (R (dB false)))
 (sel (decide (a0.kind = 5))
 (sel (decide ((a0.vars.length : Int) = 2))
 (sel (decide (1 ≤ (a0.consts.length : Int)))
 (sel (decide ((a0.rows.length : Int) = 0))
 (R (dB (decide ((a0.lits.length : Int) = 0))))
 (R (dB false)))
 (R (dB false)))
 (R (dB false)))
 (sel (decide (a0.kind = 6))
 (∃ n1_2, ztu a0 R n1_2 0)
 (sel (decide (a0.kind = 7))
 (sel (decide ((a0.vars.length : Int) = 3))
 (sel (decide ((a0.consts.length : Int) = 0))
 (sel (decide ((a0.rows.length : Int) = 0))
 (R (dB (decide ((a0.lits.length : Int) = 0))))
 (R (dB false)))
 (R (dB false)))
 (R (dB false)))
 (sel (decide (a0.kind = 8))
 (sel (decide (2 ≤ (a0.vars.length : Int)))
 (sel (decide ((a0.consts.length : Int) = 0))
 (sel (decide ((a0.rows.length : Int) = 0))
 (R (dB (decide ((a0.lits.length : Int) = 0))))
 (R (dB false)))
 (R (dB false)))
 (R (dB false)))
 (sel (decide (a0.kind = 9))
 (sel (decide ((a0.vars.length : Int) = 0))
 (sel (decide ((a0.consts.length : Int) = 0))
 (R (dB (decide ((a0.rows.length : Int) = 0))))
 (R (dB false)))
 (R (dB false)))
 (sel (decide ((a0.vars.length : Int) = 1))
 (sel (decide ((a0.consts.length : Int) = 0))
 (sel (decide ((a0.rows.length : Int) = 0))
 (R (dB (decide ((a0.lits.length : Int) = 1))))
 (R (dB false)))
 (R (dB false)))
 (R (dB false))))))))))))) := by kernel_rfl
theorem zvu (a0 : ConD) : SatI z4b Tryz.f67 znf [dC a0] := satD Tryz.func67 (by kernel_rfl) Tryz.ntmps67 rfl
def zum : Ann := { own := [], live := [], n := 5, nils := [], pubs := [] }
theorem zwu (a0 : Int) (R : D → Prop) : FD zum Tryz.f68 [dI a0] R =
 (Call1 Tryz.prog zy [dI a0, dI (-1000), dI 1000] .bool fun c1 =>
 R (dB c1)) := by kernel_rfl
theorem zxu (a0 : Int) : SatI zum Tryz.f68 zpc [dI a0] := satD Tryz.func68 (by kernel_rfl) Tryz.ntmps68 rfl
def zvm : Ann := { own := [], live := [], n := 21, nils := [], pubs := [] }
theorem zyu (a0 : MdlD) (a1 : LitD) (R : D → Prop) : FD zvm Tryz.f69 [dM a0, dL a1] R =
 (Call1 Tryz.prog zy [dI a1.var, dI 0, dI (w64 ((a0.vars.length : Int) - 1))] .bool fun c1 =>
 sel (!c1)
 (R (dI 5))
 (Call1 Tryz.prog zy [dI a1.op, dI 1, dI 4] .bool fun c2 =>
 sel (!c2)
 (R (dI 7))
 (Call1 Tryz.prog zpc [dI a1.n] .bool fun c3 =>
 sel (!c3)
 (R (dI 3))
 (R (dI 0))))) := by kernel_rfl
theorem zzu (a0 : MdlD) (a1 : LitD) : SatI zvm Tryz.f69 zVc [dM a0, dL a1] := satD Tryz.func69 (by kernel_rfl) Tryz.ntmps69 rfl
def zwm : Ann := { own := [], live := [], n := 47, nils := [], pubs := [] }
theorem zAu (a0 : LitD) (a1 : Int) (R : D → Prop) : FD zwm Tryz.f70 [dL a0, dI a1] R =
 (sel (decide (a0.op = 1))
 (sel (decide (a1 ≤ a0.n))
 (R (dB true))
 (sel (decide (a0.op = 2))
 (sel (decide (a0.n ≤ a1))
 (R (dB true))
 (sel (decide (a0.op = 3))
 (sel (decide (a1 = a0.n))
 (R (dB true))
 (sel (decide (a0.op = 4))
 (R (dB (!decide (a1 = a0.n))))
 (R (dB false))))
 (sel (decide (a0.op = 4))
 (R (dB (!decide (a1 = a0.n))))
 (R (dB false)))))
 (sel (decide (a0.op = 3))
 (sel (decide (a1 = a0.n))
 (R (dB true))
 (sel (decide (a0.op = 4))
 (R (dB (!decide (a1 = a0.n))))
 (R (dB false))))
 (sel (decide (a0.op = 4))
 (R (dB (!decide (a1 = a0.n))))
 (R (dB false))))))
 (sel (decide (a0.op = 2))
 (sel (decide (a0.n ≤ a1))
 (R (dB true))
 (sel (decide (a0.op = 3))
 (sel (decide (a1 = a0.n))
 (R (dB true))
 (sel (decide (a0.op = 4))
 (R (dB (!decide (a1 = a0.n))))
 (R (dB false))))
 (sel (decide (a0.op = 4))
 (R (dB (!decide (a1 = a0.n))))
 (R (dB false)))))
 (sel (decide (a0.op = 3))
 (sel (decide (a1 = a0.n))
 (R (dB true))
 (sel (decide (a0.op = 4))
 (R (dB (!decide (a1 = a0.n))))
 (R (dB false))))
 (sel (decide (a0.op = 4))
 (R (dB (!decide (a1 = a0.n))))
 (R (dB false)))))) := by kernel_rfl
theorem zBu (a0 : LitD) (a1 : Int) : SatI zwm Tryz.f70 zyb [dL a0, dI a1] := satD Tryz.func70 (by kernel_rfl) Tryz.ntmps70 rfl
def zxm : Ann := { own := [], live := [], n := 15, nils := [], pubs := [] }
theorem zCu (a0 : MdlD) (a1 : Int) (a2 : List LitD) (R : D → Prop) : FD zxm Tryz.f71 [dM a0, dI a1, .sl .lit a2] R =
 (Call1 Tryz.prog zPd [dM a0] (.list (.list .int)) fun c1 =>
 Call1 Tryz.prog zOd [dS c1, .sl .lit a2] (.list (.list .int)) fun c2 =>
 Call1 Tryz.prog ztc [dM a0, dI a1, dS c2] (.list (.list .int)) fun c3 =>
 Call1 Tryz.prog zF [dS c3] .bool fun c4 =>
 R (dB c4)) := by kernel_rfl
theorem zDu (a0 : MdlD) (a1 : Int) (a2 : List LitD) : SatI zxm Tryz.f71 zof [dM a0, dI a1, .sl .lit a2] := satD Tryz.func71 (by kernel_rfl) Tryz.ntmps71 rfl
def zym : Ann := { own := [], live := [], n := 15, nils := [], pubs := [] }
theorem zEu (a0 : MdlD) (a1 : List (List LitD)) (a2 : List LitD) (R : D → Prop) : FD zym Tryz.f72 [dM a0, .sl (.list .lit) a1, .sl .lit a2] R =
 (Call1 Tryz.prog zPd [dM a0] (.list (.list .int)) fun c1 =>
 Call1 Tryz.prog zOd [dS c1, .sl .lit a2] (.list (.list .int)) fun c2 =>
 Call1 Tryz.prog zCf [dM a0, dS c2, dB false, .sl (.list .lit) a1] (.list (.list .int)) fun c3 =>
 Call1 Tryz.prog zF [dS c3] .bool fun c4 =>
 R (dB c4)) := by kernel_rfl
theorem zFu (a0 : MdlD) (a1 : List (List LitD)) (a2 : List LitD) : SatI zym Tryz.f72 zJd [dM a0, .sl (.list .lit) a1, .sl .lit a2] := satD Tryz.func72 (by kernel_rfl) Tryz.ntmps72 rfl
def zeh : Ann := { own := [], live := [(0, ([0, 3], []))], n := 16, nils := [], pubs := [] }
def zfh (a0 : List (List Int)) (R : D → Prop) (n0 : Nat) (i1 : Int) : Prop := LP zeh Tryz.f106 [1, 0, 1, 0, 0] 0 n0 ⟨[(0, dS a0), (3, dI i1)], []⟩ (blockK 0 (sK zeh Tryz.f106 [1, 1] 0 (eK Tryz.f106 R)))
theorem zzm (a0 : List (List Int)) (R : D → Prop) (n0 : Nat) (i1 : Int) : zfh a0 R (n0 + 1) i1 =
 (sel (decide (i1 < (a0.length : Int)))
 (inb i1 a0.length = true ∧
 sel (decide (((at' (.list .int) a0 i1.toNat).length : Int) = 0))
 (R (dB true))
 (zfh a0 R n0 (w64 (i1 + 1))))
 (R (dB false))) := by kernel_rfl
theorem zGu (a0 : List (List Int)) (R : D → Prop) : FD zeh Tryz.f106 [dS a0] R =
 (∃ n0, zfh a0 R n0 0) := by kernel_rfl
theorem zHu (a0 : List (List Int)) : SatI zeh Tryz.f106 zF [dS a0] := satD Tryz.func106 (by kernel_rfl) Tryz.ntmps106 rfl
def zG : Ann := { own := [7, 10, 13, 14, 16, 31, 78, 95, 125, 129], live := [(0, ([2, 7, 8, 9, 10, 11], [7, 10, 31])), (2, ([2, 7, 8, 9, 10, 11, 12], [7, 10, 31])), (4, ([2, 8, 10, 14, 15], [10, 14])), (6, ([2, 8, 10, 14, 15, 16, 17], [10, 14, 16]))], n := 131, nils := [], pubs := [] }
def zW (a2 : List (List Int)) (R : D → Prop) (c2 : List Int) (n0 : Nat) (v5 : Int) (n2 : Nat) (v17 : Int) (c18 : Int) (c19 : List Int) (c20 : List Int) (c21 : Int) (c22 : List (List Int)) (c23 : List LitD) (l24 : List LitD) (l25 : List Int) : Prop := LP zG Tryz.f107 [1, 1, 1, 1, 1, 1, 1, 0, 1, 0, 0, 1, 0, 0, 1, 1, 0, 0] 2 n2 ⟨[(2, dS a2), (7, .ptr 7 0), (8, .sl .int c2), (9, .own 31), (10, .own 10), (11, dI v5), (12, dI v17)], [(7, .cells [dI c18, .sl .int c19, .sl .int c20, dI c21, dS c22, .sl .lit c23]), (10, .row 86 .lit l24), (31, .row 3 .int l25)]⟩ (blockK 2 (blockK 1 (sK zG Tryz.f107 [1, 1, 1, 1, 1, 1, 1, 0, 1, 0, 0, 1, 1] 0 (iK zG Tryz.f107 [1, 1, 1, 1, 1, 1, 1, 0, 1, 0, 0] 0 n0 (blockK 0 (sK zG Tryz.f107 [1, 1, 1, 1, 1, 1, 1, 1] 0 (eK Tryz.f107 R)))))))
def z3d (a2 : List (List Int)) (R : D → Prop) (c2 : List Int) (n4 : Nat) (v30 : Int) (n6 : Nat) (v34 : Int) (l35 : List LitD) (l36 : List (List Int)) (l37 : List Int) : Prop := LP zG Tryz.f107 [1, 1, 1, 1, 1, 1, 1, 1, 1, 0, 1, 0, 0, 1, 0, 0, 1, 1, 0, 1, 0, 0] 6 n6 ⟨[(2, dS a2), (8, .sl .int c2), (10, .own 10), (14, .own 14), (15, dI v30), (16, .own 16), (17, dI v34)], [(10, .row 86 .lit l35), (14, .row 26 (.list .int) l36), (16, .row 3 .int l37)]⟩ (blockK 6 (sK zG Tryz.f107 [1, 1, 1, 1, 1, 1, 1, 1, 1, 0, 1, 0, 0, 1, 0, 0, 1, 1, 1] 5 (blockK 5 (sK zG Tryz.f107 [1, 1, 1, 1, 1, 1, 1, 1, 1, 0, 1, 0, 0, 1, 1] 4 (iK zG Tryz.f107 [1, 1, 1, 1, 1, 1, 1, 1, 1, 0, 1, 0, 0] 4 n4 (blockK 4 (sK zG Tryz.f107 [1, 1, 1, 1, 1, 1, 1, 1, 1, 1] 0 (eK Tryz.f107 R))))))))
def z4d (a2 : List (List Int)) (R : D → Prop) (c2 : List Int) (n4 : Nat) (v30 : Int) (l31 : List LitD) (l32 : List (List Int)) : Prop := LP zG Tryz.f107 [1, 1, 1, 1, 1, 1, 1, 1, 1, 0, 1, 0, 0] 4 n4 ⟨[(2, dS a2), (8, .sl .int c2), (10, .own 10), (14, .own 14), (15, dI v30)], [(10, .row 86 .lit l31), (14, .row 26 (.list .int) l32)]⟩ (blockK 4 (sK zG Tryz.f107 [1, 1, 1, 1, 1, 1, 1, 1, 1, 1] 0 (eK Tryz.f107 R)))
def zzc (a2 : List (List Int)) (R : D → Prop) (c2 : List Int) (n0 : Nat) (v5 : Int) (c6 : Int) (c7 : List Int) (c8 : List Int) (c9 : Int) (c10 : List (List Int)) (c11 : List LitD) (l12 : List LitD) (l13 : List Int) : Prop := LP zG Tryz.f107 [1, 1, 1, 1, 1, 1, 1, 0, 1, 0, 0] 0 n0 ⟨[(2, dS a2), (7, .ptr 7 0), (8, .sl .int c2), (9, .own 31), (10, .own 10), (11, dI v5)], [(7, .cells [dI c6, .sl .int c7, .sl .int c8, dI c9, dS c10, .sl .lit c11]), (10, .row 86 .lit l12), (31, .row 3 .int l13)]⟩ (blockK 0 (sK zG Tryz.f107 [1, 1, 1, 1, 1, 1, 1, 1] 0 (eK Tryz.f107 R)))
theorem zIu (a2 : List (List Int)) (R : D → Prop) (c2 : List Int) (n0 : Nat) (v5 : Int) (n2 : Nat) (v17 : Int) (c18 : Int) (c19 : List Int) (c20 : List Int) (c21 : Int) (c22 : List (List Int)) (c23 : List LitD) (l24 : List LitD) (l25 : List Int) : zW a2 R c2 n0 v5 (n2 + 1) v17 c18 c19 c20 c21 c22 c23 l24 l25 =
 (sel (decide (v17 < (c2.length : Int)))
 (inb v17 c2.length = true ∧
 inb v17 c2.length = true ∧
 ((inb (at' .int c2 v17.toNat) l25.length = true ∧
 (Call1 Tryz.prog zCb [.sl .lit l24, .agg [dI (at' .int c2 v17.toNat), dI 0, dI (at' .int l25 ((at' .int c2 v17.toNat).toNat))]] .bool fun c26 =>
 sel (!c26)
 (room .lit (l24.length + ([(⟨at' .int c2 v17.toNat, 0, at' .int l25 ((at' .int c2 v17.toNat).toNat)⟩ : LitD)]).length) = true ∧
 zW a2 R c2 n0 v5 n2 (w64 (v17 + 1)) c18 c19 c20 c21 c22 c23 (l24 ++ ([(⟨at' .int c2 v17.toNat, 0, at' .int l25 ((at' .int c2 v17.toNat).toNat)⟩ : LitD)])) l25)
 (zW a2 R c2 n0 v5 n2 (w64 (v17 + 1)) c18 c19 c20 c21 c22 c23 l24 l25)) ∧
 Call1 Tryz.prog zCb [.sl .lit l24, .agg [dI (at' .int c2 v17.toNat), dI 0, dI (at' .int l25 ((at' .int c2 v17.toNat).toNat))]] .bool fun c27 =>
 sel (!c27)
 (room .lit (l24.length + ([(⟨at' .int c2 v17.toNat, 0, at' .int l25 ((at' .int c2 v17.toNat).toNat)⟩ : LitD)]).length) = true ∧
 zW a2 R c2 n0 v5 n2 (w64 (v17 + 1)) c18 c19 c20 c21 c22 c23 (l24 ++ ([(⟨at' .int c2 v17.toNat, 0, at' .int l25 ((at' .int c2 v17.toNat).toNat)⟩ : LitD)])) l25)
 (zW a2 R c2 n0 v5 n2 (w64 (v17 + 1)) c18 c19 c20 c21 c22 c23 l24 l25)) ∧
 inb (at' .int c2 v17.toNat) l25.length = true ∧
 Call1 Tryz.prog zCb [.sl .lit l24, .agg [dI (at' .int c2 v17.toNat), dI 0, dI (at' .int l25 ((at' .int c2 v17.toNat).toNat))]] .bool fun c28 =>
 sel (!c28)
 (room .lit (l24.length + ([(⟨at' .int c2 v17.toNat, 0, at' .int l25 ((at' .int c2 v17.toNat).toNat)⟩ : LitD)]).length) = true ∧
 zW a2 R c2 n0 v5 n2 (w64 (v17 + 1)) c18 c19 c20 c21 c22 c23 (l24 ++ ([(⟨at' .int c2 v17.toNat, 0, at' .int l25 ((at' .int c2 v17.toNat).toNat)⟩ : LitD)])) l25)
 (zW a2 R c2 n0 v5 n2 (w64 (v17 + 1)) c18 c19 c20 c21 c22 c23 l24 l25)) ∧
 inb (at' .int c2 v17.toNat) l25.length = true ∧
 Call1 Tryz.prog zCb [.sl .lit l24, .agg [dI (at' .int c2 v17.toNat), dI 0, dI (at' .int l25 ((at' .int c2 v17.toNat).toNat))]] .bool fun c29 =>
 sel (!c29)
 (room .lit (l24.length + ([(⟨at' .int c2 v17.toNat, 0, at' .int l25 ((at' .int c2 v17.toNat).toNat)⟩ : LitD)]).length) = true ∧
 zW a2 R c2 n0 v5 n2 (w64 (v17 + 1)) c18 c19 c20 c21 c22 c23 (l24 ++ ([(⟨at' .int c2 v17.toNat, 0, at' .int l25 ((at' .int c2 v17.toNat).toNat)⟩ : LitD)])) l25)
 (zW a2 R c2 n0 v5 n2 (w64 (v17 + 1)) c18 c19 c20 c21 c22 c23 l24 l25))
 (zzc a2 R c2 n0 (w64 (v5 + 1)) c18 c19 c20 c21 c22 c23 l24 l25)) := by kernel_rfl
theorem zJu (a2 : List (List Int)) (R : D → Prop) (c2 : List Int) (n4 : Nat) (v30 : Int) (n6 : Nat) (v34 : Int) (l35 : List LitD) (l36 : List (List Int)) (l37 : List Int) : z3d a2 R c2 n4 v30 (n6 + 1) v34 l35 l36 l37 =
 (inb v30 a2.length = true ∧
 sel (decide (v34 < ((at' (.list .int) a2 v30.toNat).length : Int)))
 (inb v30 a2.length = true ∧
 inb v34 (at' (.list .int) a2 v30.toNat).length = true ∧
 Call1 Tryz.prog zCb [.sl .lit l35, .agg [dI v30, dI 0, dI (at' .int (at' (.list .int) a2 v30.toNat) v34.toNat)]] .bool fun c38 =>
 sel c38
 (inb v30 a2.length = true ∧
 inb v34 (at' (.list .int) a2 v30.toNat).length = true ∧
 room .int (l37.length + ([at' .int (at' (.list .int) a2 v30.toNat) v34.toNat]).length) = true ∧
 z3d a2 R c2 n4 v30 n6 (w64 (v34 + 1)) l35 l36 (l37 ++ ([at' .int (at' (.list .int) a2 v30.toNat) v34.toNat])))
 (z3d a2 R c2 n4 v30 n6 (w64 (v34 + 1)) l35 l36 l37))
 (room (.list .int) (l36.length + ([l37]).length) = true ∧
 z4d a2 R c2 n4 (w64 (v30 + 1)) l35 (l36 ++ ([l37])))) := by kernel_rfl
theorem zKu (a2 : List (List Int)) (R : D → Prop) (c2 : List Int) (n4 : Nat) (v30 : Int) (l31 : List LitD) (l32 : List (List Int)) : z4d a2 R c2 (n4 + 1) v30 l31 l32 =
 (sel (decide (v30 < (a2.length : Int)))
 (Call1 Tryz.prog zVd [.sl .int c2, dI v30] .bool fun c33 =>
 sel (!c33)
 (inb v30 a2.length = true ∧
 room (.list .int) (l32.length + ([at' (.list .int) a2 v30.toNat]).length) = true ∧
 z4d a2 R c2 n4 (w64 (v30 + 1)) l31 (l32 ++ ([at' (.list .int) a2 v30.toNat])))
 (∃ n6, z3d a2 R c2 n4 v30 n6 0 l31 l32 ([] : List Int)))
 (R (dS l32))) := by kernel_rfl
theorem zLu (a2 : List (List Int)) (R : D → Prop) (c2 : List Int) (n0 : Nat) (v5 : Int) (c6 : Int) (c7 : List Int) (c8 : List Int) (c9 : Int) (c10 : List (List Int)) (c11 : List LitD) (l12 : List LitD) (l13 : List Int) : zzc a2 R c2 (n0 + 1) v5 c6 c7 c8 c9 c10 c11 l12 l13 =
 (∃ c14 : Bool, ∃ c15 : List Int, SatH Tryz.prog zSf [dS a2, .sl .int c2, .own 1000, dI v5] [(1000, .row 3 .int l13)] (dB c14) [(1000, .row 3 .int c15)] ∧
 sel c14
 (Call1 Tryz.prog zTc [.agg [dI c6, .sl .int c7, .sl .int c8, dI c9, dS c10, .sl .lit c11], .sl .int c15] .bool fun c16 =>
 sel (!c16)
 (zzc a2 R c2 n0 (w64 (v5 + 1)) c6 c7 c8 c9 c10 c11 l12 c15)
 (∃ n2, zW a2 R c2 n0 v5 n2 0 c6 c7 c8 c9 c10 c11 l12 c15))
 (∃ n4, z4d a2 R c2 n4 0 l12 ([] : List (List Int)))) := by kernel_rfl
theorem zMu (a0 : MdlD) (a1 : Int) (a2 : List (List Int)) (R : D → Prop) : FD zG Tryz.f107 [dM a0, dI a1, dS a2] R =
 (Call1 Tryz.prog zF [dS a2] .bool fun c1 =>
 sel c1
 (R (dS a2))
 (inb a1 a0.cons.length = true ∧
 Call1 Tryz.prog zUd [dM a0, dC (at' .con a0.cons a1.toNat)] (.list .int) fun c2 =>
 (a2.length : Int) = (a2.length : Int) ∧
 0 ≤ (a2.length : Int) ∧
 room .int ((a2.length : Int).toNat) = true ∧
 sel (decide ((c2.length : Int) = 0))
 (Call1 Tryz.prog zTc [dC (at' .con a0.cons a1.toNat), .sl .int (List.replicate ((a2.length : Int).toNat) (Ty.dflt .int))] .bool fun c3 =>
 sel c3
 (R (dS a2))
 (Call1 Tryz.prog z3b [dI (a2.length : Int)] (.list (.list .int)) fun c4 =>
 R (dS c4)))
 (∃ n0, zzc a2 R c2 n0 0 ((at' .con a0.cons a1.toNat).kind) ((at' .con a0.cons a1.toNat).vars) ((at' .con a0.cons a1.toNat).consts) ((at' .con a0.cons a1.toNat).n) ((at' .con a0.cons a1.toNat).rows) ((at' .con a0.cons a1.toNat).lits) ([] : List LitD) (List.replicate ((a2.length : Int).toNat) (Ty.dflt .int))))) := by kernel_rfl
theorem zNu (a0 : MdlD) (a1 : Int) (a2 : List (List Int)) : SatI zG Tryz.f107 ztc [dM a0, dI a1, dS a2] := satD Tryz.func107 (by kernel_rfl) Tryz.ntmps107 rfl
def zq : Ann := { own := [7, 9, 64, 68], live := [(0, ([1, 5, 6], [])), (2, ([1, 5, 6, 7, 8], [7])), (4, ([1, 5, 6, 7, 8, 9, 10], [7, 9]))], n := 71, nils := [], pubs := [] }
def z8c (a1 : List LitD) (R : D → Prop) (n0 : Nat) (v1 : List (List Int)) (v2 : Int) (n2 : Nat) (v3 : Int) (n4 : Nat) (v5 : Int) (l6 : List (List Int)) (l7 : List Int) : Prop := LP zq Tryz.f108 [1, 1, 0, 1, 0, 0, 1, 0, 0, 1, 0, 1, 0, 0, 1, 0, 0, 1, 0, 1, 0, 0] 4 n4 ⟨[(1, .sl .lit a1), (5, dS v1), (6, dI v2), (7, .own 7), (8, dI v3), (9, .own 9), (10, dI v5)], [(7, .row 26 (.list .int) l6), (9, .row 3 .int l7)]⟩ (blockK 4 (sK zq Tryz.f108 [1, 1, 0, 1, 0, 0, 1, 0, 0, 1, 0, 1, 0, 0, 1, 0, 0, 1, 1] 3 (blockK 3 (sK zq Tryz.f108 [1, 1, 0, 1, 0, 0, 1, 0, 0, 1, 0, 1, 0, 0, 1, 1] 2 (iK zq Tryz.f108 [1, 1, 0, 1, 0, 0, 1, 0, 0, 1, 0, 1, 0, 0] 2 n2 (blockK 2 (sK zq Tryz.f108 [1, 1, 0, 1, 0, 0, 1, 0, 0, 1, 1] 1 (blockK 1 (sK zq Tryz.f108 [1, 1, 0, 1, 0, 0, 1, 1] 0 (iK zq Tryz.f108 [1, 1, 0, 1, 0, 0] 0 n0 (blockK 0 (sK zq Tryz.f108 [1, 1, 1] 0 (eK Tryz.f108 R)))))))))))))
def zgh (a1 : List LitD) (R : D → Prop) (n0 : Nat) (v1 : List (List Int)) (v2 : Int) (n2 : Nat) (v3 : Int) (l4 : List (List Int)) : Prop := LP zq Tryz.f108 [1, 1, 0, 1, 0, 0, 1, 0, 0, 1, 0, 1, 0, 0] 2 n2 ⟨[(1, .sl .lit a1), (5, dS v1), (6, dI v2), (7, .own 7), (8, dI v3)], [(7, .row 26 (.list .int) l4)]⟩ (blockK 2 (sK zq Tryz.f108 [1, 1, 0, 1, 0, 0, 1, 0, 0, 1, 1] 1 (blockK 1 (sK zq Tryz.f108 [1, 1, 0, 1, 0, 0, 1, 1] 0 (iK zq Tryz.f108 [1, 1, 0, 1, 0, 0] 0 n0 (blockK 0 (sK zq Tryz.f108 [1, 1, 1] 0 (eK Tryz.f108 R))))))))
def zhh (a1 : List LitD) (R : D → Prop) (n0 : Nat) (v1 : List (List Int)) (v2 : Int) : Prop := LP zq Tryz.f108 [1, 1, 0, 1, 0, 0] 0 n0 ⟨[(1, .sl .lit a1), (5, dS v1), (6, dI v2)], []⟩ (blockK 0 (sK zq Tryz.f108 [1, 1, 1] 0 (eK Tryz.f108 R)))
theorem zOu (a1 : List LitD) (R : D → Prop) (n0 : Nat) (v1 : List (List Int)) (v2 : Int) (n2 : Nat) (v3 : Int) (n4 : Nat) (v5 : Int) (l6 : List (List Int)) (l7 : List Int) : z8c a1 R n0 v1 v2 n2 v3 (n4 + 1) v5 l6 l7 =
 (inb v3 v1.length = true ∧
 sel (decide (v5 < ((at' (.list .int) v1 v3.toNat).length : Int)))
 (inb v2 a1.length = true ∧
 sel (!decide (v3 = ((at' .lit a1 v2.toNat).var)))
 (inb v3 v1.length = true ∧
 inb v5 (at' (.list .int) v1 v3.toNat).length = true ∧
 room .int (l7.length + ([at' .int (at' (.list .int) v1 v3.toNat) v5.toNat]).length) = true ∧
 z8c a1 R n0 v1 v2 n2 v3 n4 (w64 (v5 + 1)) l6 (l7 ++ ([at' .int (at' (.list .int) v1 v3.toNat) v5.toNat])))
 (inb v2 a1.length = true ∧
 inb v3 v1.length = true ∧
 inb v5 (at' (.list .int) v1 v3.toNat).length = true ∧
 Call1 Tryz.prog zyb [dL (at' .lit a1 v2.toNat), dI (at' .int (at' (.list .int) v1 v3.toNat) v5.toNat)] .bool fun c8 =>
 sel (!c8)
 (inb v3 v1.length = true ∧
 inb v5 (at' (.list .int) v1 v3.toNat).length = true ∧
 room .int (l7.length + ([at' .int (at' (.list .int) v1 v3.toNat) v5.toNat]).length) = true ∧
 z8c a1 R n0 v1 v2 n2 v3 n4 (w64 (v5 + 1)) l6 (l7 ++ ([at' .int (at' (.list .int) v1 v3.toNat) v5.toNat])))
 (z8c a1 R n0 v1 v2 n2 v3 n4 (w64 (v5 + 1)) l6 l7)))
 (room (.list .int) (l6.length + ([l7]).length) = true ∧
 zgh a1 R n0 v1 v2 n2 (w64 (v3 + 1)) (l6 ++ ([l7])))) := by kernel_rfl
theorem zPu (a1 : List LitD) (R : D → Prop) (n0 : Nat) (v1 : List (List Int)) (v2 : Int) (n2 : Nat) (v3 : Int) (l4 : List (List Int)) : zgh a1 R n0 v1 v2 (n2 + 1) v3 l4 =
 (sel (decide (v3 < (v1.length : Int)))
 (∃ n4, z8c a1 R n0 v1 v2 n2 v3 n4 0 l4 ([] : List Int))
 (zhh a1 R n0 l4 (w64 (v2 + 1)))) := by kernel_rfl
theorem zQu (a1 : List LitD) (R : D → Prop) (n0 : Nat) (v1 : List (List Int)) (v2 : Int) : zhh a1 R (n0 + 1) v1 v2 =
 (sel (decide (v2 < (a1.length : Int)))
 (∃ n2, zgh a1 R n0 v1 v2 n2 0 ([] : List (List Int)))
 (R (dS v1))) := by kernel_rfl
theorem zRu (a0 : List (List Int)) (a1 : List LitD) (R : D → Prop) : FD zq Tryz.f108 [dS a0, .sl .lit a1] R =
 (∃ n0, zhh a1 R n0 a0 0) := by kernel_rfl
theorem zSu (a0 : List (List Int)) (a1 : List LitD) : SatI zq Tryz.f108 zOd [dS a0, .sl .lit a1] := satD Tryz.func108 (by kernel_rfl) Tryz.ntmps108 rfl
def zFb : Ann := { own := [3, 5, 33, 37], live := [(0, ([1, 3, 4], [3])), (2, ([1, 3, 4, 5, 6], [3, 5]))], n := 39, nils := [], pubs := [] }
def zih (a0 : MdlD) (R : D → Prop) (n0 : Nat) (i1 : Int) (n2 : Nat) (n3 : Int) (out4 : List (List Int)) (l5 : List Int) : Prop := LP zFb Tryz.f109 [1, 1, 0, 1, 0, 0, 1, 0, 0, 1, 0, 1, 0, 0] 2 n2 ⟨[(1, .iptr [.sl .var a0.vars, .sl .con a0.cons, dI a0.goal, dI a0.var] 0), (3, .own 3), (4, dI i1), (5, .own 5), (6, dI n3)], [(3, .row 26 (.list .int) out4), (5, .row 3 .int l5)]⟩ (blockK 2 (sK zFb Tryz.f109 [1, 1, 0, 1, 0, 0, 1, 0, 0, 1, 1] 1 (blockK 1 (sK zFb Tryz.f109 [1, 1, 0, 1, 0, 0, 1, 1] 0 (iK zFb Tryz.f109 [1, 1, 0, 1, 0, 0] 0 n0 (blockK 0 (sK zFb Tryz.f109 [1, 1, 1] 0 (eK Tryz.f109 R))))))))
def zjh (a0 : MdlD) (R : D → Prop) (n0 : Nat) (i1 : Int) (out2 : List (List Int)) : Prop := LP zFb Tryz.f109 [1, 1, 0, 1, 0, 0] 0 n0 ⟨[(1, .iptr [.sl .var a0.vars, .sl .con a0.cons, dI a0.goal, dI a0.var] 0), (3, .own 3), (4, dI i1)], [(3, .row 26 (.list .int) out2)]⟩ (blockK 0 (sK zFb Tryz.f109 [1, 1, 1] 0 (eK Tryz.f109 R)))
theorem zTu (a0 : MdlD) (R : D → Prop) (n0 : Nat) (i1 : Int) (n2 : Nat) (n3 : Int) (out4 : List (List Int)) (l5 : List Int) : zih a0 R n0 i1 (n2 + 1) n3 out4 l5 =
 (inb i1 a0.vars.length = true ∧
 sel (decide (n3 ≤ ((at' .var a0.vars i1.toNat).hi)))
 (room .int (l5.length + ([n3]).length) = true ∧
 zih a0 R n0 i1 n2 (w64 (n3 + 1)) out4 (l5 ++ ([n3])))
 (room (.list .int) (out4.length + ([l5]).length) = true ∧
 zjh a0 R n0 (w64 (i1 + 1)) (out4 ++ ([l5])))) := by kernel_rfl
theorem zUu (a0 : MdlD) (R : D → Prop) (n0 : Nat) (i1 : Int) (out2 : List (List Int)) : zjh a0 R (n0 + 1) i1 out2 =
 (sel (decide (i1 < (a0.vars.length : Int)))
 (inb i1 a0.vars.length = true ∧
 ∃ n2, zih a0 R n0 i1 n2 ((at' .var a0.vars i1.toNat).lo) out2 ([] : List Int))
 (R (dS out2))) := by kernel_rfl
theorem zVu (a0 : MdlD) (R : D → Prop) : FD zFb Tryz.f109 [dM a0] R =
 (∃ n0, zjh a0 R n0 0 ([] : List (List Int))) := by kernel_rfl
theorem zWu (a0 : MdlD) : SatI zFb Tryz.f109 zPd [dM a0] := satD Tryz.func109 (by kernel_rfl) Tryz.ntmps109 rfl
def zP : Ann := { own := [], live := [(0, ([1, 2, 3, 4, 9], [])), (2, ([1, 2, 3, 4, 9, 10], [])), (4, ([1, 2, 3, 4, 9, 12], []))], n := 74, nils := [], pubs := [] }
def z9c (a0 : MdlD) (a2 : Bool) (a3 : List (List LitD)) (R : D → Prop) (n0 : Nat) (n4 : Nat) (v10 : List (List Int)) (v11 : Bool) (v12 : Int) : Prop := LP zP Tryz.f110 [1, 0, 1, 0, 0, 1, 0, 1, 1, 1, 0, 0] 4 n4 ⟨[(1, dS v10), (2, dB a2), (3, .sl (.list .lit) a3), (4, .iptr [.sl .var a0.vars, .sl .con a0.cons, dI a0.goal, dI a0.var] 0), (9, dB v11), (12, dI v12)], []⟩ (blockK 4 (blockK 1 (iK zP Tryz.f110 [1, 0, 1, 0, 0] 0 n0 (blockK 0 (sK zP Tryz.f110 [1, 1] 0 (eK Tryz.f110 R))))))
def zad (a0 : MdlD) (a2 : Bool) (a3 : List (List LitD)) (R : D → Prop) (n0 : Nat) (n4_2 : Nat) (v16 : List (List Int)) (v17 : Bool) (v18 : Int) : Prop := LP zP Tryz.f110 [1, 0, 1, 0, 0, 1, 0, 1, 1, 1, 0, 0] 4 n4_2 ⟨[(1, dS v16), (2, dB a2), (3, .sl (.list .lit) a3), (4, .iptr [.sl .var a0.vars, .sl .con a0.cons, dI a0.goal, dI a0.var] 0), (9, dB v17), (12, dI v18)], []⟩ (blockK 4 (blockK 1 (iK zP Tryz.f110 [1, 0, 1, 0, 0] 0 n0 (blockK 0 (sK zP Tryz.f110 [1, 1] 0 (eK Tryz.f110 R))))))
def z5b (a0 : MdlD) (a2 : Bool) (a3 : List (List LitD)) (R : D → Prop) (n0 : Nat) (n2 : Nat) (v4 : List (List Int)) (v5 : Bool) (v6 : Int) : Prop := LP zP Tryz.f110 [1, 0, 1, 0, 0, 1, 0, 1, 0, 1, 0, 0] 2 n2 ⟨[(1, dS v4), (2, dB a2), (3, .sl (.list .lit) a3), (4, .iptr [.sl .var a0.vars, .sl .con a0.cons, dI a0.goal, dI a0.var] 0), (9, dB v5), (10, dI v6)], []⟩ (blockK 2 (sK zP Tryz.f110 [1, 0, 1, 0, 0, 1, 0, 1, 1] 1 (blockK 1 (iK zP Tryz.f110 [1, 0, 1, 0, 0] 0 n0 (blockK 0 (sK zP Tryz.f110 [1, 1] 0 (eK Tryz.f110 R)))))))
def zr (a0 : MdlD) (a2 : Bool) (a3 : List (List LitD)) (R : D → Prop) (n0 : Nat) (v1 : List (List Int)) (v2 : Bool) : Prop := LP zP Tryz.f110 [1, 0, 1, 0, 0] 0 n0 ⟨[(1, dS v1), (2, dB a2), (3, .sl (.list .lit) a3), (4, .iptr [.sl .var a0.vars, .sl .con a0.cons, dI a0.goal, dI a0.var] 0), (9, dB v2)], []⟩ (blockK 0 (sK zP Tryz.f110 [1, 1] 0 (eK Tryz.f110 R)))
theorem zXu (a0 : MdlD) (a2 : Bool) (a3 : List (List LitD)) (R : D → Prop) (n0 : Nat) (n4 : Nat) (v10 : List (List Int)) (v11 : Bool) (v12 : Int) : z9c a0 a2 a3 R n0 (n4 + 1) v10 v11 v12 =
 (sel (decide (0 ≤ v12))
 (sel a2
 (Call1 Tryz.prog zF [dS v10] .bool fun c13 =>
 sel (!c13)
 (Call1 Tryz.prog ztc [dM a0, dI v12, dS v10] (.list (.list .int)) fun c14 =>
 Call1 Tryz.prog zvc [dS v10, dS c14] .bool fun c15 =>
 sel (!c15)
 (z9c a0 a2 a3 R n0 n4 c14 true (w64 (v12 - 1)))
 (z9c a0 a2 a3 R n0 n4 v10 v11 (w64 (v12 - 1))))
 (zr a0 a2 a3 R n0 v10 v11))
 (zr a0 a2 a3 R n0 v10 v11))
 (zr a0 a2 a3 R n0 v10 v11)) := by kernel_rfl
theorem zYu (a0 : MdlD) (a2 : Bool) (a3 : List (List LitD)) (R : D → Prop) (n0 : Nat) (n4_2 : Nat) (v16 : List (List Int)) (v17 : Bool) (v18 : Int) : zad a0 a2 a3 R n0 (n4_2 + 1) v16 v17 v18 =
 (sel (decide (0 ≤ v18))
 (sel a2
 (Call1 Tryz.prog zF [dS v16] .bool fun c19 =>
 sel (!c19)
 (Call1 Tryz.prog ztc [dM a0, dI v18, dS v16] (.list (.list .int)) fun c20 =>
 Call1 Tryz.prog zvc [dS v16, dS c20] .bool fun c21 =>
 sel (!c21)
 (zad a0 a2 a3 R n0 n4_2 c20 true (w64 (v18 - 1)))
 (zad a0 a2 a3 R n0 n4_2 v16 v17 (w64 (v18 - 1))))
 (zr a0 a2 a3 R n0 v16 v17))
 (zr a0 a2 a3 R n0 v16 v17))
 (zr a0 a2 a3 R n0 v16 v17)) := by kernel_rfl
theorem zej (a0 : MdlD) (a2 : Bool) (a3 : List (List LitD)) (R : D → Prop) (n0 : Nat) (n2 : Nat) (v4 : List (List Int)) (v5 : Bool) (v6 : Int) : z5b a0 a2 a3 R n0 (n2 + 1) v4 v5 v6 =
 (sel (decide (0 ≤ v6))
 (Call1 Tryz.prog zF [dS v4] .bool fun c7 =>
 sel (!c7)
 (inb v6 a3.length = true ∧
 Call1 Tryz.prog zTf [dS v4, .sl .lit (at' (.list .lit) a3 v6.toNat)] (.list (.list .int)) fun c8 =>
 Call1 Tryz.prog zvc [dS v4, dS c8] .bool fun c9 =>
 sel (!c9)
 (z5b a0 a2 a3 R n0 n2 c8 true (w64 (v6 - 1)))
 (z5b a0 a2 a3 R n0 n2 v4 v5 (w64 (v6 - 1))))
 (∃ n4, z9c a0 a2 a3 R n0 n4 v4 v5 (w64 ((a0.cons.length : Int) - 1))))
 (∃ n4_2, zad a0 a2 a3 R n0 n4_2 v4 v5 (w64 ((a0.cons.length : Int) - 1)))) := by kernel_rfl
theorem zAm (a0 : MdlD) (a2 : Bool) (a3 : List (List LitD)) (R : D → Prop) (n0 : Nat) (v1 : List (List Int)) (v2 : Bool) : zr a0 a2 a3 R (n0 + 1) v1 v2 =
 (sel v2
 (Call1 Tryz.prog zF [dS v1] .bool fun c3 =>
 sel (!c3)
 (∃ n2, z5b a0 a2 a3 R n0 n2 v1 false (w64 ((a3.length : Int) - 1)))
 (Call1 Tryz.prog zF [dS v1] .bool fun c22 =>
 sel c22
 (Call1 Tryz.prog z3b [dI (v1.length : Int)] (.list (.list .int)) fun c23 =>
 R (dS c23))
 (R (dS v1))))
 (Call1 Tryz.prog zF [dS v1] .bool fun c24 =>
 sel c24
 (Call1 Tryz.prog z3b [dI (v1.length : Int)] (.list (.list .int)) fun c25 =>
 R (dS c25))
 (R (dS v1)))) := by kernel_rfl
theorem zZu (a0 : MdlD) (a1 : List (List Int)) (a2 : Bool) (a3 : List (List LitD)) (R : D → Prop) : FD zP Tryz.f110 [dM a0, dS a1, dB a2, .sl (.list .lit) a3] R =
 (∃ n0, zr a0 a2 a3 R n0 a1 true) := by kernel_rfl
theorem z0u (a0 : MdlD) (a1 : List (List Int)) (a2 : Bool) (a3 : List (List LitD)) : SatI zP Tryz.f110 zCf [dM a0, dS a1, dB a2, .sl (.list .lit) a3] := satD Tryz.func110 (by kernel_rfl) Tryz.ntmps110 rfl
def zQ : Ann := { own := [5, 56], live := [(0, ([2, 3, 5, 6], [5])), (2, ([2, 3, 5, 6, 7, 8], [5])), (4, ([2, 3, 5, 6, 7, 9], [5]))], n := 58, nils := [], pubs := [] }
def z5d (a0 : MdlD) (a1 : ConD) (R : D → Prop) (n0 : Nat) (v1 : Int) (out2 : List Int) (n4 : Nat) (is5 : Bool) (i6 : Int) : Prop := LP zQ Tryz.f151 [1, 1, 0, 1, 0, 0, 1, 0, 0, 1, 1, 0, 1, 0, 0] 4 n4 ⟨[(2, .iptr [.sl .var a0.vars, .sl .con a0.cons, dI a0.goal, dI a0.var] 0), (3, .iptr [dI a1.kind, .sl .int a1.vars, .sl .int a1.consts, dI a1.n, dS a1.rows, .sl .lit a1.lits] 0), (5, .own 5), (6, dI v1), (7, dB is5), (9, dI i6)], [(5, .row 3 .int out2)]⟩ (blockK 4 (sK zQ Tryz.f151 [1, 1, 0, 1, 0, 0, 1, 0, 0, 1, 1, 1] 1 (blockK 1 (sK zQ Tryz.f151 [1, 1, 0, 1, 0, 0, 1, 1] 0 (iK zQ Tryz.f151 [1, 1, 0, 1, 0, 0] 0 n0 (blockK 0 (sK zQ Tryz.f151 [1, 1, 1] 0 (eK Tryz.f151 R))))))))
def z6d (a0 : MdlD) (a1 : ConD) (R : D → Prop) (n0 : Nat) (v1 : Int) (out2 : List Int) (n2 : Nat) (is3 : Bool) (i4 : Int) : Prop := LP zQ Tryz.f151 [1, 1, 0, 1, 0, 0, 1, 0, 0, 1, 0, 1, 0, 0] 2 n2 ⟨[(2, .iptr [.sl .var a0.vars, .sl .con a0.cons, dI a0.goal, dI a0.var] 0), (3, .iptr [dI a1.kind, .sl .int a1.vars, .sl .int a1.consts, dI a1.n, dS a1.rows, .sl .lit a1.lits] 0), (5, .own 5), (6, dI v1), (7, dB is3), (8, dI i4)], [(5, .row 3 .int out2)]⟩ (blockK 2 (sK zQ Tryz.f151 [1, 1, 0, 1, 0, 0, 1, 0, 0, 1, 1] 1 (blockK 1 (sK zQ Tryz.f151 [1, 1, 0, 1, 0, 0, 1, 1] 0 (iK zQ Tryz.f151 [1, 1, 0, 1, 0, 0] 0 n0 (blockK 0 (sK zQ Tryz.f151 [1, 1, 1] 0 (eK Tryz.f151 R))))))))
def z7d (a0 : MdlD) (a1 : ConD) (R : D → Prop) (n0 : Nat) (v1 : Int) (out2 : List Int) : Prop := LP zQ Tryz.f151 [1, 1, 0, 1, 0, 0] 0 n0 ⟨[(2, .iptr [.sl .var a0.vars, .sl .con a0.cons, dI a0.goal, dI a0.var] 0), (3, .iptr [dI a1.kind, .sl .int a1.vars, .sl .int a1.consts, dI a1.n, dS a1.rows, .sl .lit a1.lits] 0), (5, .own 5), (6, dI v1)], [(5, .row 3 .int out2)]⟩ (blockK 0 (sK zQ Tryz.f151 [1, 1, 1] 0 (eK Tryz.f151 R)))
theorem z1u (a0 : MdlD) (a1 : ConD) (R : D → Prop) (n0 : Nat) (v1 : Int) (out2 : List Int) (n4 : Nat) (is5 : Bool) (i6 : Int) : z5d a0 a1 R n0 v1 out2 (n4 + 1) is5 i6 =
 (sel (decide (i6 < (a1.lits.length : Int)))
 (sel is5
 (z5d a0 a1 R n0 v1 out2 n4 true (w64 (i6 + 1)))
 (inb i6 a1.lits.length = true ∧
 z5d a0 a1 R n0 v1 out2 n4 (decide (((at' .lit a1.lits i6.toNat).var) = v1)) (w64 (i6 + 1))))
 (sel is5
 (room .int (out2.length + ([v1]).length) = true ∧
 z7d a0 a1 R n0 (w64 (v1 + 1)) (out2 ++ ([v1])))
 (z7d a0 a1 R n0 (w64 (v1 + 1)) out2))) := by kernel_rfl
theorem z2u (a0 : MdlD) (a1 : ConD) (R : D → Prop) (n0 : Nat) (v1 : Int) (out2 : List Int) (n2 : Nat) (is3 : Bool) (i4 : Int) : z6d a0 a1 R n0 v1 out2 (n2 + 1) is3 i4 =
 (sel (decide (i4 < (a1.vars.length : Int)))
 (sel is3
 (z6d a0 a1 R n0 v1 out2 n2 true (w64 (i4 + 1)))
 (inb i4 a1.vars.length = true ∧
 z6d a0 a1 R n0 v1 out2 n2 (decide ((at' .int a1.vars i4.toNat) = v1)) (w64 (i4 + 1))))
 (∃ n4, z5d a0 a1 R n0 v1 out2 n4 is3 0)) := by kernel_rfl
theorem z3u (a0 : MdlD) (a1 : ConD) (R : D → Prop) (n0 : Nat) (v1 : Int) (out2 : List Int) : z7d a0 a1 R (n0 + 1) v1 out2 =
 (sel (decide (v1 < (a0.vars.length : Int)))
 (∃ n2, z6d a0 a1 R n0 v1 out2 n2 false 0)
 (R (.sl .int out2))) := by kernel_rfl
theorem z4u (a0 : MdlD) (a1 : ConD) (R : D → Prop) : FD zQ Tryz.f151 [dM a0, dC a1] R =
 (∃ n0, z7d a0 a1 R n0 0 ([] : List Int)) := by kernel_rfl
theorem z5u (a0 : MdlD) (a1 : ConD) : SatI zQ Tryz.f151 zUd [dM a0, dC a1] := satD Tryz.func151 (by kernel_rfl) Tryz.ntmps151 rfl
def zkh : Ann := { own := [3, 12], live := [(0, ([0, 3, 4], [3]))], n := 14, nils := [], pubs := [] }
def zlh (a0 : Int) (R : D → Prop) (n0 : Nat) (i1 : Int) (out2 : List (List Int)) : Prop := LP zkh Tryz.f152 [1, 1, 0, 1, 0, 0] 0 n0 ⟨[(0, dI a0), (3, .own 3), (4, dI i1)], [(3, .row 26 (.list .int) out2)]⟩ (blockK 0 (sK zkh Tryz.f152 [1, 1, 1] 0 (eK Tryz.f152 R)))
theorem z6u (a0 : Int) (R : D → Prop) (n0 : Nat) (i1 : Int) (out2 : List (List Int)) : zlh a0 R (n0 + 1) i1 out2 =
 (sel (decide (i1 < a0))
 (room (.list .int) (out2.length + ([([] : List Int)]).length) = true ∧
 zlh a0 R n0 (w64 (i1 + 1)) (out2 ++ ([([] : List Int)])))
 (R (dS out2))) := by kernel_rfl
theorem z7u (a0 : Int) (R : D → Prop) : FD zkh Tryz.f152 [dI a0] R =
 (∃ n0, zlh a0 R n0 0 ([] : List (List Int))) := by kernel_rfl
theorem z8u (a0 : Int) : SatI zkh Tryz.f152 z3b [dI a0] := satD Tryz.func152 (by kernel_rfl) Tryz.ntmps152 rfl
def zmh : Ann := { own := [], live := [(0, ([0, 1, 2, 3, 9], [1000]))], n := 46, nils := [], pubs := [] }
def z8d (s0 : List (List Int)) (vars0 : List Int) (R : D → List (Nat × HObj) → Prop) (n0 : Nat) (n1 : Int) (i2 : Int) (l3 : List Int) : Prop := LP zmh Tryz.f153 [1, 0, 1, 0, 0] 0 n0 ⟨[(0, dS s0), (1, .sl .int vars0), (2, .own 1000), (3, dI n1), (9, dI i2)], [(1000, .row 3 .int l3)]⟩ (blockK 0 (sK zmh Tryz.f153 [1, 1] 0 (eH Tryz.f153 [.own 1000] false R)))
theorem z9u (s0 : List (List Int)) (vars0 : List Int) (R : D → List (Nat × HObj) → Prop) (n0 : Nat) (n1 : Int) (i2 : Int) (l3 : List Int) : z8d s0 vars0 R (n0 + 1) n1 i2 l3 =
 (sel (decide (i2 < (vars0.length : Int)))
 (inb i2 vars0.length = true ∧
 inb (at' .int vars0 i2.toNat) s0.length = true ∧
 sel (decide (((at' (.list .int) s0 ((at' .int vars0 i2.toNat).toNat)).length : Int) = 0))
 (R (dB false) [(1000, .row 3 .int l3)])
 (inb i2 vars0.length = true ∧
 ((at' (.list .int) s0 ((at' .int vars0 i2.toNat).toNat)).length : Int) ≠ 0 ∧
 inb (n1.tmod ((at' (.list .int) s0 ((at' .int vars0 i2.toNat).toNat)).length : Int)) (at' (.list .int) s0 ((at' .int vars0 i2.toNat).toNat)).length = true ∧
 inb (at' .int vars0 i2.toNat) l3.length = true ∧
 ((at' (.list .int) s0 ((at' .int vars0 i2.toNat).toNat)).length : Int) ≠ 0 ∧
 z8d s0 vars0 R n0 (w64 (n1.tdiv ((at' (.list .int) s0 ((at' .int vars0 i2.toNat).toNat)).length : Int))) (w64 (i2 + 1)) (l3.set ((at' .int vars0 i2.toNat).toNat) (at' .int (at' (.list .int) s0 ((at' .int vars0 i2.toNat).toNat)) ((n1.tmod ((at' (.list .int) s0 ((at' .int vars0 i2.toNat).toNat)).length : Int)).toNat)))))
 (R (dB (decide (n1 = 0))) [(1000, .row 3 .int l3)])) := by kernel_rfl
theorem zav (s0 : List (List Int)) (vars0 : List Int) (values0 : List Int) (pn0 : Int) (R : D → List (Nat × HObj) → Prop) : FH zmh Tryz.f153 [dS s0, .sl .int vars0, .own 1000, dI pn0] [(1000, .row 3 .int values0)] [.own 1000] false R =
 (∃ n0, z8d s0 vars0 R n0 pn0 0 values0) := by kernel_rfl
theorem zbv (s0 : List (List Int)) (vars0 : List Int) (values0 : List Int) (pn0 : Int) : SatHI zmh Tryz.f153 zSf [dS s0, .sl .int vars0, .own 1000, dI pn0] [(1000, .row 3 .int values0)] [.own 1000] false := satHD Tryz.func153 (by kernel_rfl) Tryz.ntmps153 rfl
def znh : Ann := { own := [], live := [(0, ([0, 3, 5], []))], n := 18, nils := [], pubs := [] }
def zoh (a0 : List LitD) (a1 : LitD) (R : D → Prop) (n0 : Nat) (i1 : Int) : Prop := LP znh Tryz.f154 [1, 0, 1, 0, 0] 0 n0 ⟨[(0, .sl .lit a0), (3, .iptr [dI a1.var, dI a1.op, dI a1.n] 0), (5, dI i1)], []⟩ (blockK 0 (sK znh Tryz.f154 [1, 1] 0 (eK Tryz.f154 R)))
theorem zBm (a0 : List LitD) (a1 : LitD) (R : D → Prop) (n0 : Nat) (i1 : Int) : zoh a0 a1 R (n0 + 1) i1 =
 (sel (decide (i1 < (a0.length : Int)))
 (inb i1 a0.length = true ∧
 sel (decide ((at' .lit a0 i1.toNat) = a1))
 (R (dB true))
 (zoh a0 a1 R n0 (w64 (i1 + 1))))
 (R (dB false))) := by kernel_rfl
theorem zcv (a0 : List LitD) (a1 : LitD) (R : D → Prop) : FD znh Tryz.f154 [.sl .lit a0, dL a1] R =
 (∃ n0, zoh a0 a1 R n0 0) := by kernel_rfl
theorem zdv (a0 : List LitD) (a1 : LitD) : SatI znh Tryz.f154 zCb [.sl .lit a0, dL a1] := satD Tryz.func154 (by kernel_rfl) Tryz.ntmps154 rfl
def zph : Ann := { own := [], live := [(0, ([0, 1, 5], []))], n := 18, nils := [], pubs := [] }
def zqh (a0 : List Int) (a1 : Int) (R : D → Prop) (n0 : Nat) (i1 : Int) : Prop := LP zph Tryz.f155 [1, 0, 1, 0, 0] 0 n0 ⟨[(0, .sl .int a0), (1, dI a1), (5, dI i1)], []⟩ (blockK 0 (sK zph Tryz.f155 [1, 1] 0 (eK Tryz.f155 R)))
theorem zCm (a0 : List Int) (a1 : Int) (R : D → Prop) (n0 : Nat) (i1 : Int) : zqh a0 a1 R (n0 + 1) i1 =
 (sel (decide (i1 < (a0.length : Int)))
 (inb i1 a0.length = true ∧
 sel (decide ((at' .int a0 i1.toNat) = a1))
 (R (dB true))
 (zqh a0 a1 R n0 (w64 (i1 + 1))))
 (R (dB false))) := by kernel_rfl
theorem zev (a0 : List Int) (a1 : Int) (R : D → Prop) : FD zph Tryz.f155 [.sl .int a0, dI a1] R =
 (∃ n0, zqh a0 a1 R n0 0) := by kernel_rfl
theorem zfv (a0 : List Int) (a1 : Int) : SatI zph Tryz.f155 zVd [.sl .int a0, dI a1] := satD Tryz.func155 (by kernel_rfl) Tryz.ntmps155 rfl
def zn : Ann := { own := [5, 7, 9, 46, 117, 121], live := [(0, ([0, 1, 5, 6], [5])), (2, ([0, 1, 5, 7, 8], [5, 7])), (4, ([0, 1, 5, 7, 8, 9, 10], [5, 7, 9])), (6, ([0, 1, 5, 7, 8, 9, 10, 11, 12], [5, 7, 9]))], n := 123, nils := [], pubs := [] }
def zbd (a0 : List (List Int)) (a1 : List LitD) (R : D → Prop) (n2 : Nat) (v7 : Int) (n4 : Nat) (v10 : Int) (l11 : List Int) (l12 : List (List Int)) (l13 : List Int) (n6 : Nat) (v14 : Bool) (v15 : Int) : Prop := LP zn Tryz.f156 [1, 1, 1, 1, 1, 1, 1, 0, 1, 0, 0, 1, 0, 0, 1, 0, 1, 0, 0, 1, 0, 0, 1, 0, 1, 0, 0] 6 n6 ⟨[(0, dS a0), (1, .sl .lit a1), (5, .own 5), (7, .own 7), (8, dI v7), (9, .own 9), (10, dI v10), (11, dB v14), (12, dI v15)], [(5, .row 3 .int l11), (7, .row 26 (.list .int) l12), (9, .row 3 .int l13)]⟩ (blockK 6 (sK zn Tryz.f156 [1, 1, 1, 1, 1, 1, 1, 0, 1, 0, 0, 1, 0, 0, 1, 0, 1, 0, 0, 1, 0, 0, 1, 1] 5 (blockK 5 (sK zn Tryz.f156 [1, 1, 1, 1, 1, 1, 1, 0, 1, 0, 0, 1, 0, 0, 1, 0, 1, 0, 0, 1, 1] 4 (iK zn Tryz.f156 [1, 1, 1, 1, 1, 1, 1, 0, 1, 0, 0, 1, 0, 0, 1, 0, 1, 0, 0] 4 n4 (blockK 4 (sK zn Tryz.f156 [1, 1, 1, 1, 1, 1, 1, 0, 1, 0, 0, 1, 0, 0, 1, 1] 3 (blockK 3 (sK zn Tryz.f156 [1, 1, 1, 1, 1, 1, 1, 0, 1, 0, 0, 1, 1] 2 (iK zn Tryz.f156 [1, 1, 1, 1, 1, 1, 1, 0, 1, 0, 0] 2 n2 (blockK 2 (sK zn Tryz.f156 [1, 1, 1, 1, 1, 1, 1, 1] 0 (eK Tryz.f156 R)))))))))))))
def z9d (a0 : List (List Int)) (a1 : List LitD) (R : D → Prop) (n2 : Nat) (v7 : Int) (n4 : Nat) (v10 : Int) (l11 : List Int) (l12 : List (List Int)) (l13 : List Int) : Prop := LP zn Tryz.f156 [1, 1, 1, 1, 1, 1, 1, 0, 1, 0, 0, 1, 0, 0, 1, 0, 1, 0, 0] 4 n4 ⟨[(0, dS a0), (1, .sl .lit a1), (5, .own 5), (7, .own 7), (8, dI v7), (9, .own 9), (10, dI v10)], [(5, .row 3 .int l11), (7, .row 26 (.list .int) l12), (9, .row 3 .int l13)]⟩ (blockK 4 (sK zn Tryz.f156 [1, 1, 1, 1, 1, 1, 1, 0, 1, 0, 0, 1, 0, 0, 1, 1] 3 (blockK 3 (sK zn Tryz.f156 [1, 1, 1, 1, 1, 1, 1, 0, 1, 0, 0, 1, 1] 2 (iK zn Tryz.f156 [1, 1, 1, 1, 1, 1, 1, 0, 1, 0, 0] 2 n2 (blockK 2 (sK zn Tryz.f156 [1, 1, 1, 1, 1, 1, 1, 1] 0 (eK Tryz.f156 R))))))))
def zrh (a0 : List (List Int)) (a1 : List LitD) (R : D → Prop) (n2 : Nat) (v7 : Int) (l8 : List Int) (l9 : List (List Int)) : Prop := LP zn Tryz.f156 [1, 1, 1, 1, 1, 1, 1, 0, 1, 0, 0] 2 n2 ⟨[(0, dS a0), (1, .sl .lit a1), (5, .own 5), (7, .own 7), (8, dI v7)], [(5, .row 3 .int l8), (7, .row 26 (.list .int) l9)]⟩ (blockK 2 (sK zn Tryz.f156 [1, 1, 1, 1, 1, 1, 1, 1] 0 (eK Tryz.f156 R)))
def zcd (a0 : List (List Int)) (a1 : List LitD) (R : D → Prop) (n0 : Nat) (v2 : Int) (l3 : List Int) : Prop := LP zn Tryz.f156 [1, 1, 1, 0, 1, 0, 0] 0 n0 ⟨[(0, dS a0), (1, .sl .lit a1), (5, .own 5), (6, dI v2)], [(5, .row 3 .int l3)]⟩ (blockK 0 (sK zn Tryz.f156 [1, 1, 1, 1] 0 (eK Tryz.f156 R)))
theorem zgv (a0 : List (List Int)) (a1 : List LitD) (R : D → Prop) (n2 : Nat) (v7 : Int) (n4 : Nat) (v10 : Int) (l11 : List Int) (l12 : List (List Int)) (l13 : List Int) (n6 : Nat) (v14 : Bool) (v15 : Int) : zbd a0 a1 R n2 v7 n4 v10 l11 l12 l13 (n6 + 1) v14 v15 =
 (sel (decide (v15 < (a1.length : Int)))
 (sel v14
 (zbd a0 a1 R n2 v7 n4 v10 l11 l12 l13 n6 true (w64 (v15 + 1)))
 (inb v15 a1.length = true ∧
 sel (decide (((at' .lit a1 v15.toNat).var) = v7))
 (inb v15 a1.length = true ∧
 inb v7 a0.length = true ∧
 inb v10 (at' (.list .int) a0 v7.toNat).length = true ∧
 Call1 Tryz.prog zyb [dL (at' .lit a1 v15.toNat), dI (at' .int (at' (.list .int) a0 v7.toNat) v10.toNat)] .bool fun c16 =>
 zbd a0 a1 R n2 v7 n4 v10 l11 l12 l13 n6 c16 (w64 (v15 + 1)))
 (zbd a0 a1 R n2 v7 n4 v10 l11 l12 l13 n6 false (w64 (v15 + 1)))))
 (sel v14
 (inb v7 a0.length = true ∧
 inb v10 (at' (.list .int) a0 v7.toNat).length = true ∧
 room .int (l13.length + ([at' .int (at' (.list .int) a0 v7.toNat) v10.toNat]).length) = true ∧
 z9d a0 a1 R n2 v7 n4 (w64 (v10 + 1)) l11 l12 (l13 ++ ([at' .int (at' (.list .int) a0 v7.toNat) v10.toNat])))
 (z9d a0 a1 R n2 v7 n4 (w64 (v10 + 1)) l11 l12 l13))) := by kernel_rfl
theorem zhv (a0 : List (List Int)) (a1 : List LitD) (R : D → Prop) (n2 : Nat) (v7 : Int) (n4 : Nat) (v10 : Int) (l11 : List Int) (l12 : List (List Int)) (l13 : List Int) : z9d a0 a1 R n2 v7 (n4 + 1) v10 l11 l12 l13 =
 (inb v7 a0.length = true ∧
 sel (decide (v10 < ((at' (.list .int) a0 v7.toNat).length : Int)))
 (inb 0 l11.length = true ∧
 ∃ n6, zbd a0 a1 R n2 v7 n4 v10 l11 l12 l13 n6 (!decide (v7 = (at' .int l11 0))) 0)
 (room (.list .int) (l12.length + ([l13]).length) = true ∧
 zrh a0 a1 R n2 (w64 (v7 + 1)) l11 (l12 ++ ([l13])))) := by kernel_rfl
theorem ziv (a0 : List (List Int)) (a1 : List LitD) (R : D → Prop) (n2 : Nat) (v7 : Int) (l8 : List Int) (l9 : List (List Int)) : zrh a0 a1 R (n2 + 1) v7 l8 l9 =
 (sel (decide (v7 < (a0.length : Int)))
 (∃ n4, z9d a0 a1 R n2 v7 n4 0 l8 l9 ([] : List Int))
 (R (dS l9))) := by kernel_rfl
theorem zjv (a0 : List (List Int)) (a1 : List LitD) (R : D → Prop) (n0 : Nat) (v2 : Int) (l3 : List Int) : zcd a0 a1 R (n0 + 1) v2 l3 =
 (sel (decide (v2 < (a1.length : Int)))
 (inb v2 a1.length = true ∧
 Call1 Tryz.prog z4f [dS a0, dL (at' .lit a1 v2.toNat)] .int fun c4 =>
 sel (decide (0 ≤ c4))
 (inb v2 a1.length = true ∧
 Call1 Tryz.prog zVd [.sl .int l3, dI ((at' .lit a1 v2.toNat).var)] .bool fun c5 =>
 sel (!c5)
 (inb v2 a1.length = true ∧
 room .int (l3.length + ([(at' .lit a1 v2.toNat).var]).length) = true ∧
 zcd a0 a1 R n0 (w64 (v2 + 1)) (l3 ++ ([(at' .lit a1 v2.toNat).var])))
 (zcd a0 a1 R n0 (w64 (v2 + 1)) l3))
 (zcd a0 a1 R n0 (w64 (v2 + 1)) l3))
 (sel (decide ((l3.length : Int) = 0))
 (Call1 Tryz.prog z3b [dI (a0.length : Int)] (.list (.list .int)) fun c6 =>
 R (dS c6))
 (sel (decide (1 < (l3.length : Int)))
 (R (dS a0))
 (∃ n2, zrh a0 a1 R n2 0 l3 ([] : List (List Int)))))) := by kernel_rfl
theorem zkv (a0 : List (List Int)) (a1 : List LitD) (R : D → Prop) : FD zn Tryz.f156 [dS a0, .sl .lit a1] R =
 (Call1 Tryz.prog zF [dS a0] .bool fun c1 =>
 sel c1
 (R (dS a0))
 (∃ n0, zcd a0 a1 R n0 0 ([] : List Int))) := by kernel_rfl
theorem zlv (a0 : List (List Int)) (a1 : List LitD) : SatI zn Tryz.f156 zTf [dS a0, .sl .lit a1] := satD Tryz.func156 (by kernel_rfl) Tryz.ntmps156 rfl
def zsh : Ann := { own := [], live := [(0, ([0, 1, 5], []))], n := 27, nils := [], pubs := [] }
def zth (a0 : List (List Int)) (a1 : List (List Int)) (R : D → Prop) (n0 : Nat) (i1 : Int) : Prop := LP zsh Tryz.f157 [1, 1, 0, 1, 0, 0] 0 n0 ⟨[(0, dS a0), (1, dS a1), (5, dI i1)], []⟩ (blockK 0 (sK zsh Tryz.f157 [1, 1, 1] 0 (eK Tryz.f157 R)))
theorem zDm (a0 : List (List Int)) (a1 : List (List Int)) (R : D → Prop) (n0 : Nat) (i1 : Int) : zth a0 a1 R (n0 + 1) i1 =
 (sel (decide (i1 < (a0.length : Int)))
 (inb i1 a0.length = true ∧
 inb i1 a1.length = true ∧
 Call1 Tryz.prog zQc [.sl .int (at' (.list .int) a0 i1.toNat), .sl .int (at' (.list .int) a1 i1.toNat)] .bool fun c2 =>
 sel (!c2)
 (R (dB false))
 (zth a0 a1 R n0 (w64 (i1 + 1))))
 (R (dB true))) := by kernel_rfl
theorem zmv (a0 : List (List Int)) (a1 : List (List Int)) (R : D → Prop) : FD zsh Tryz.f157 [dS a0, dS a1] R =
 (sel (!decide ((a0.length : Int) = (a1.length : Int)))
 (R (dB false))
 (∃ n0, zth a0 a1 R n0 0)) := by kernel_rfl
theorem znv (a0 : List (List Int)) (a1 : List (List Int)) : SatI zsh Tryz.f157 zvc [dS a0, dS a1] := satD Tryz.func157 (by kernel_rfl) Tryz.ntmps157 rfl
def zuh : Ann := { own := [], live := [(0, ([0, 3, 5, 6, 7], []))], n := 35, nils := [], pubs := [] }
def zae (a0 : List (List Int)) (a1 : LitD) (R : D → Prop) (n0 : Nat) (yes1 : Bool) (no2 : Bool) (k3 : Int) : Prop := LP zuh Tryz.f179 [1, 1, 0, 1, 0, 0] 0 n0 ⟨[(0, dS a0), (3, .iptr [dI a1.var, dI a1.op, dI a1.n] 0), (5, dB yes1), (6, dB no2), (7, dI k3)], []⟩ (blockK 0 (sK zuh Tryz.f179 [1, 1, 1] 0 (eK Tryz.f179 R)))
theorem zov (a0 : List (List Int)) (a1 : LitD) (R : D → Prop) (n0 : Nat) (yes1 : Bool) (no2 : Bool) (k3 : Int) : zae a0 a1 R (n0 + 1) yes1 no2 k3 =
 (inb a1.var a0.length = true ∧
 sel (decide (k3 < ((at' (.list .int) a0 a1.var.toNat).length : Int)))
 (inb a1.var a0.length = true ∧
 inb k3 (at' (.list .int) a0 a1.var.toNat).length = true ∧
 Call1 Tryz.prog zyb [dL a1, dI (at' .int (at' (.list .int) a0 a1.var.toNat) k3.toNat)] .bool fun c4 =>
 sel c4
 (zae a0 a1 R n0 true no2 (w64 (k3 + 1)))
 (zae a0 a1 R n0 yes1 true (w64 (k3 + 1))))
 (sel yes1
 (sel (!no2)
 (R (dI 1))
 (sel (!yes1)
 (R (dI (-1)))
 (R (dI 0))))
 (sel (!yes1)
 (R (dI (-1)))
 (R (dI 0))))) := by kernel_rfl
theorem zpv (a0 : List (List Int)) (a1 : LitD) (R : D → Prop) : FD zuh Tryz.f179 [dS a0, dL a1] R =
 (∃ n0, zae a0 a1 R n0 false false 0) := by kernel_rfl
theorem zqv (a0 : List (List Int)) (a1 : LitD) : SatI zuh Tryz.f179 z4f [dS a0, dL a1] := satD Tryz.func179 (by kernel_rfl) Tryz.ntmps179 rfl
end Go.Proofs.YtajnbkhgnppckaaGreatDoor
