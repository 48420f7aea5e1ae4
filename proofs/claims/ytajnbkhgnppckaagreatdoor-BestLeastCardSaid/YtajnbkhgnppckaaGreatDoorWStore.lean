/- What the functions of a package do, as equations of plain propositions: printed by a program that carries the code out on symbols. -/
import Derived.Test.YtajnbkhgnppckaaGreatDoorWEv
namespace Go.Proofs.YtajnbkhgnppckaaGreatDoor
open Go.RowKit
set_option linter.unusedVariables false
set_option maxRecDepth 100000
def zib : Ann := { own := [3, 5, 6, 26, 30], live := [(0, ([3, 9, 10, 11], [3])), (2, ([3, 5, 6, 7, 9, 10, 11], [3, 5, 6]))], n := 33, nils := [], pubs := [] }
def z7e (a0 : MdlD) (R : D → Prop) (n0 : Nat) (v1 : Int) (n2 : Nat) (n3 : Int) (out4 : List (List Int)) (l5 : List Int) : Prop := LP zib Tryz.f38 [1, 1, 0, 1, 0, 0, 1, 1, 0, 0, 1, 1, 0, 1, 0, 0] 2 n2 ⟨[(3, .own 3), (5, .ptr 5 0), (6, .own 6), (7, dI n3), (9, .sl .var a0.vars), (10, dI (a0.vars.length : Int)), (11, dI v1)], [(3, .row 26 (.list .int) out4), (5, .cells [.str ((at' .var a0.vars v1.toNat).name), dI ((at' .var a0.vars v1.toNat).lo), dI ((at' .var a0.vars v1.toNat).hi)]), (6, .row 3 .int l5)]⟩ (blockK 2 (sK zib Tryz.f38 [1, 1, 0, 1, 0, 0, 1, 1, 0, 0, 1, 1, 1] 1 (blockK 1 (sK zib Tryz.f38 [1, 1, 0, 1, 0, 0, 1, 1, 1] 0 (iK zib Tryz.f38 [1, 1, 0, 1, 0, 0] 0 n0 (blockK 0 (sK zib Tryz.f38 [1, 1, 1] 0 (eK Tryz.f38 R))))))))
def z8e (a0 : MdlD) (R : D → Prop) (n0 : Nat) (v1 : Int) (out2 : List (List Int)) : Prop := LP zib Tryz.f38 [1, 1, 0, 1, 0, 0] 0 n0 ⟨[(3, .own 3), (9, .sl .var a0.vars), (10, dI (a0.vars.length : Int)), (11, dI v1)], [(3, .row 26 (.list .int) out2)]⟩ (blockK 0 (sK zib Tryz.f38 [1, 1, 1] 0 (eK Tryz.f38 R)))
theorem zFp (a0 : MdlD) (R : D → Prop) (n0 : Nat) (v1 : Int) (n2 : Nat) (n3 : Int) (out4 : List (List Int)) (l5 : List Int) : z7e a0 R n0 v1 (n2 + 1) n3 out4 l5 =
 (sel (decide (n3 ≤ ((at' .var a0.vars v1.toNat).hi)))
 (room .int (l5.length + ([n3]).length) = true ∧
 z7e a0 R n0 v1 n2 (w64 (n3 + 1)) out4 (l5 ++ ([n3])))
 (room (.list .int) (out4.length + ([l5]).length) = true ∧
 z8e a0 R n0 (w64 (v1 + 1)) (out4 ++ ([l5])))) := by kernel_rfl
theorem zGp (a0 : MdlD) (R : D → Prop) (n0 : Nat) (v1 : Int) (out2 : List (List Int)) : z8e a0 R (n0 + 1) v1 out2 =
 (sel (decide (v1 < (a0.vars.length : Int)))
 (inb v1 a0.vars.length = true ∧
 ∃ n2, z7e a0 R n0 v1 n2 ((at' .var a0.vars v1.toNat).lo) out2 ([] : List Int))
 (R (dS out2))) := by kernel_rfl
theorem zHp (a0 : MdlD) (R : D → Prop) : FD zib Tryz.f38 [dM a0] R =
 (∃ n0, z8e a0 R n0 0 ([] : List (List Int))) := by kernel_rfl
theorem zIp (a0 : MdlD) : SatI zib Tryz.f38 zRb [dM a0] := satD Tryz.func38 (by kernel_rfl) Tryz.ntmps38 rfl
def zqj : Ann := { own := [], live := [], n := 5, nils := [], pubs := [] }
theorem zJp (a0 : List (List Int)) (R : D → Prop) : FD zqj Tryz.f61 [dS a0] R =
 (Call1 Tryz.prog zAe [dS a0, .clo zBe none []] .bool fun s1 =>
 R (dB s1)) := by kernel_rfl
theorem zKp (a0 : List (List Int)) : SatI zqj Tryz.f61 zf [dS a0] := satD Tryz.func61 (by kernel_rfl) Tryz.ntmps61 rfl
def zjb : Ann := { own := [5, 8, 31, 36], live := [(0, ([1, 5, 11, 12, 13], [5])), (2, ([1, 5, 6, 8, 11, 12, 13, 18, 19, 20], [5, 8]))], n := 39, nils := [], pubs := [] }
def z7c (a0 : List (List Int)) (g1 : FuncId) (cap1 : List D) (R : D → Prop) (n0 : Nat) (v1 : Int) (n2 : Nat) (v3 : Int) (out4 : List (List Int)) (k5 : List Int) : Prop := LP zjb Tryz.f63 [1, 1, 0, 1, 0, 0, 1, 1, 0, 0, 1, 1, 0, 1, 0, 0] 2 n2 ⟨[(1, .clo g1 (some [.bool]) cap1), (5, .own 5), (6, dI v1), (8, .own 8), (11, dS a0), (12, dI (a0.length : Int)), (13, dI v1), (18, .sl .int (at' (.list .int) a0 v1.toNat)), (19, dI ((at' (.list .int) a0 v1.toNat).length : Int)), (20, dI v3)], [(5, .row 26 (.list .int) out4), (8, .row 3 .int k5)]⟩ (blockK 2 (sK zjb Tryz.f63 [1, 1, 0, 1, 0, 0, 1, 1, 0, 0, 1, 1, 1] 1 (blockK 1 (sK zjb Tryz.f63 [1, 1, 0, 1, 0, 0, 1, 1, 1] 0 (iK zjb Tryz.f63 [1, 1, 0, 1, 0, 0] 0 n0 (blockK 0 (sK zjb Tryz.f63 [1, 1, 1] 0 (eK Tryz.f63 R))))))))
def z9e (a0 : List (List Int)) (g1 : FuncId) (cap1 : List D) (R : D → Prop) (n0 : Nat) (v1 : Int) (out2 : List (List Int)) : Prop := LP zjb Tryz.f63 [1, 1, 0, 1, 0, 0] 0 n0 ⟨[(1, .clo g1 (some [.bool]) cap1), (5, .own 5), (11, dS a0), (12, dI (a0.length : Int)), (13, dI v1)], [(5, .row 26 (.list .int) out2)]⟩ (blockK 0 (sK zjb Tryz.f63 [1, 1, 1] 0 (eK Tryz.f63 R)))
theorem zLp (a0 : List (List Int)) (g1 : FuncId) (cap1 : List D) (R : D → Prop) (n0 : Nat) (v1 : Int) (n2 : Nat) (v3 : Int) (out4 : List (List Int)) (k5 : List Int) : z7c a0 g1 cap1 R n0 v1 (n2 + 1) v3 out4 k5 =
 (sel (decide (v3 < ((at' (.list .int) a0 v1.toNat).length : Int)))
 (inb v3 (at' (.list .int) a0 v1.toNat).length = true ∧
 Ent Tryz.prog g1 ∧
 Call1 Tryz.prog g1 ([dI v1, dI (at' .int (at' (.list .int) a0 v1.toNat) v3.toNat)] ++ cap1) .bool fun r6 =>
 sel r6
 (room .int (k5.length + ([at' .int (at' (.list .int) a0 v1.toNat) v3.toNat]).length) = true ∧
 z7c a0 g1 cap1 R n0 v1 n2 (w64 (v3 + 1)) out4 (k5 ++ ([at' .int (at' (.list .int) a0 v1.toNat) v3.toNat])))
 (z7c a0 g1 cap1 R n0 v1 n2 (w64 (v3 + 1)) out4 k5))
 (room (.list .int) (out4.length + ([k5]).length) = true ∧
 z9e a0 g1 cap1 R n0 (w64 (v1 + 1)) (out4 ++ ([k5])))) := by kernel_rfl
theorem zMp (a0 : List (List Int)) (g1 : FuncId) (cap1 : List D) (R : D → Prop) (n0 : Nat) (v1 : Int) (out2 : List (List Int)) : z9e a0 g1 cap1 R (n0 + 1) v1 out2 =
 (sel (decide (v1 < (a0.length : Int)))
 (inb v1 a0.length = true ∧
 ∃ n2, z7c a0 g1 cap1 R n0 v1 n2 0 out2 ([] : List Int))
 (R (dS out2))) := by kernel_rfl
theorem zNp (a0 : List (List Int)) (g1 : FuncId) (cap1 : List D) (R : D → Prop) : FD zjb Tryz.f63 [dS a0, .clo g1 (some [.bool]) cap1] R =
 (∃ n0, z9e a0 g1 cap1 R n0 0 ([] : List (List Int))) := by kernel_rfl
theorem zOp (a0 : List (List Int)) (g1 : FuncId) (cap1 : List D) : SatI zjb Tryz.f63 zC [dS a0, .clo g1 (some [.bool]) cap1] := satD Tryz.func63 (by kernel_rfl) Tryz.ntmps63 rfl
def zaf : Ann := { own := [3, 16], live := [(0, ([3, 6, 7, 8], [3]))], n := 19, nils := [], pubs := [] }
def zbf (a0 : List (List Int)) (R : D → Prop) (n0 : Nat) (v1 : Int) (out2 : List (List Int)) : Prop := LP zaf Tryz.f98 [1, 1, 0, 1, 0, 0] 0 n0 ⟨[(3, .own 3), (6, dS a0), (7, dI (a0.length : Int)), (8, dI v1)], [(3, .row 26 (.list .int) out2)]⟩ (blockK 0 (sK zaf Tryz.f98 [1, 1, 1] 0 (eK Tryz.f98 R)))
theorem zPp (a0 : List (List Int)) (R : D → Prop) (n0 : Nat) (v1 : Int) (out2 : List (List Int)) : zbf a0 R (n0 + 1) v1 out2 =
 (sel (decide (v1 < (a0.length : Int)))
 (inb v1 a0.length = true ∧
 ∃ i3 : List Int, SatH Tryz.prog zjc [.sl .int (at' (.list .int) a0 v1.toNat)] [] (.own 3000) [(3000, .row 3 .int i3)] ∧
 room (.list .int) (out2.length + ([i3]).length) = true ∧
 zbf a0 R n0 (w64 (v1 + 1)) (out2 ++ ([i3])))
 (R (dS out2))) := by kernel_rfl
theorem zQp (a0 : List (List Int)) (R : D → Prop) : FD zaf Tryz.f98 [dS a0] R =
 (∃ n0, zbf a0 R n0 0 ([] : List (List Int))) := by kernel_rfl
theorem zRp (a0 : List (List Int)) : SatI zaf Tryz.f98 zvb [dS a0] := satD Tryz.func98 (by kernel_rfl) Tryz.ntmps98 rfl
def zrj : Ann := { own := [], live := [], n := 6, nils := [], pubs := [] }
theorem zSp (a0 : List (List Int)) (R : D → Prop) : FD zrj Tryz.f101 [dS a0] R =
 ((a0.length : Int) = (a0.length : Int) ∧
 0 ≤ (a0.length : Int) ∧
 room (.list .int) ((a0.length : Int).toNat) = true ∧
 R (dS (List.replicate ((a0.length : Int).toNat) (Ty.dflt (.list .int))))) := by kernel_rfl
theorem zTp (a0 : List (List Int)) : SatI zrj Tryz.f101 zG [dS a0] := satD Tryz.func101 (by kernel_rfl) Tryz.ntmps101 rfl
def zsj : Ann := { own := [], live := [], n := 6, nils := [], pubs := [] }
theorem zUp (a0 : List Int) (R : D → Prop) : FD zsj Tryz.f104 [.sl .int a0] R =
 (R (dB (decide ((a0.length : Int) = 0)))) := by kernel_rfl
theorem zVp (a0 : List Int) : SatI zsj Tryz.f104 zBe [.sl .int a0] := satD Tryz.func104 (by kernel_rfl) Tryz.ntmps104 rfl
end Go.Proofs.YtajnbkhgnppckaaGreatDoor
