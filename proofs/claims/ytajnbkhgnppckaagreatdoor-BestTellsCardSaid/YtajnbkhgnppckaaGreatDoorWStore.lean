/- What the functions of a package do, as equations of plain propositions: printed by a program that carries the code out on symbols. -/
import Derived.Test.YtajnbkhgnppckaaGreatDoorWEv
namespace Go.Proofs.YtajnbkhgnppckaaGreatDoor
open Go.RowKit
set_option linter.unusedVariables false
set_option maxRecDepth 100000
def zDb : Ann := { own := [3, 5, 6, 26, 30], live := [(0, ([3, 9, 10, 11], [3])), (2, ([3, 5, 6, 7, 9, 10, 11], [3, 5, 6]))], n := 33, nils := [], pubs := [] }
def zag (a0 : MdlD) (R : D → Prop) (n0 : Nat) (v1 : Int) (n2 : Nat) (n3 : Int) (out4 : List (List Int)) (l5 : List Int) : Prop := LP zDb Tryz.f38 [1, 1, 0, 1, 0, 0, 1, 1, 0, 0, 1, 1, 0, 1, 0, 0] 2 n2 ⟨[(3, .own 3), (5, .ptr 5 0), (6, .own 6), (7, dI n3), (9, .sl .var a0.vars), (10, dI (a0.vars.length : Int)), (11, dI v1)], [(3, .row 26 (.list .int) out4), (5, .cells [.str ((at' .var a0.vars v1.toNat).name), dI ((at' .var a0.vars v1.toNat).lo), dI ((at' .var a0.vars v1.toNat).hi)]), (6, .row 3 .int l5)]⟩ (blockK 2 (sK zDb Tryz.f38 [1, 1, 0, 1, 0, 0, 1, 1, 0, 0, 1, 1, 1] 1 (blockK 1 (sK zDb Tryz.f38 [1, 1, 0, 1, 0, 0, 1, 1, 1] 0 (iK zDb Tryz.f38 [1, 1, 0, 1, 0, 0] 0 n0 (blockK 0 (sK zDb Tryz.f38 [1, 1, 1] 0 (eK Tryz.f38 R))))))))
def zbg (a0 : MdlD) (R : D → Prop) (n0 : Nat) (v1 : Int) (out2 : List (List Int)) : Prop := LP zDb Tryz.f38 [1, 1, 0, 1, 0, 0] 0 n0 ⟨[(3, .own 3), (9, .sl .var a0.vars), (10, dI (a0.vars.length : Int)), (11, dI v1)], [(3, .row 26 (.list .int) out2)]⟩ (blockK 0 (sK zDb Tryz.f38 [1, 1, 1] 0 (eK Tryz.f38 R)))
theorem z1r (a0 : MdlD) (R : D → Prop) (n0 : Nat) (v1 : Int) (n2 : Nat) (n3 : Int) (out4 : List (List Int)) (l5 : List Int) : zag a0 R n0 v1 (n2 + 1) n3 out4 l5 =
 (sel (decide (n3 ≤ ((at' .var a0.vars v1.toNat).hi)))
 (room .int (l5.length + ([n3]).length) = true ∧
 zag a0 R n0 v1 n2 (w64 (n3 + 1)) out4 (l5 ++ ([n3])))
 (room (.list .int) (out4.length + ([l5]).length) = true ∧
 zbg a0 R n0 (w64 (v1 + 1)) (out4 ++ ([l5])))) := by kernel_rfl
theorem z2r (a0 : MdlD) (R : D → Prop) (n0 : Nat) (v1 : Int) (out2 : List (List Int)) : zbg a0 R (n0 + 1) v1 out2 =
 (sel (decide (v1 < (a0.vars.length : Int)))
 (inb v1 a0.vars.length = true ∧
 ∃ n2, zag a0 R n0 v1 n2 ((at' .var a0.vars v1.toNat).lo) out2 ([] : List Int))
 (R (dS out2))) := by kernel_rfl
theorem z3r (a0 : MdlD) (R : D → Prop) : FD zDb Tryz.f38 [dM a0] R =
 (∃ n0, zbg a0 R n0 0 ([] : List (List Int))) := by kernel_rfl
theorem z4r (a0 : MdlD) : SatI zDb Tryz.f38 zoc [dM a0] := satD Tryz.func38 (by kernel_rfl) Tryz.ntmps38 rfl
def zrl : Ann := { own := [], live := [], n := 5, nils := [], pubs := [] }
theorem z5r (a0 : List (List Int)) (R : D → Prop) : FD zrl Tryz.f61 [dS a0] R =
 (Call1 Tryz.prog zAf [dS a0, .clo zBf none []] .bool fun s1 =>
 R (dB s1)) := by kernel_rfl
theorem z6r (a0 : List (List Int)) : SatI zrl Tryz.f61 zg [dS a0] := satD Tryz.func61 (by kernel_rfl) Tryz.ntmps61 rfl
def zEb : Ann := { own := [5, 8, 31, 36], live := [(0, ([1, 5, 11, 12, 13], [5])), (2, ([1, 5, 6, 8, 11, 12, 13, 18, 19, 20], [5, 8]))], n := 39, nils := [], pubs := [] }
def zZd (a0 : List (List Int)) (g1 : FuncId) (cap1 : List D) (R : D → Prop) (n0 : Nat) (v1 : Int) (n2 : Nat) (v3 : Int) (out4 : List (List Int)) (k5 : List Int) : Prop := LP zEb Tryz.f63 [1, 1, 0, 1, 0, 0, 1, 1, 0, 0, 1, 1, 0, 1, 0, 0] 2 n2 ⟨[(1, .clo g1 (some [.bool]) cap1), (5, .own 5), (6, dI v1), (8, .own 8), (11, dS a0), (12, dI (a0.length : Int)), (13, dI v1), (18, .sl .int (at' (.list .int) a0 v1.toNat)), (19, dI ((at' (.list .int) a0 v1.toNat).length : Int)), (20, dI v3)], [(5, .row 26 (.list .int) out4), (8, .row 3 .int k5)]⟩ (blockK 2 (sK zEb Tryz.f63 [1, 1, 0, 1, 0, 0, 1, 1, 0, 0, 1, 1, 1] 1 (blockK 1 (sK zEb Tryz.f63 [1, 1, 0, 1, 0, 0, 1, 1, 1] 0 (iK zEb Tryz.f63 [1, 1, 0, 1, 0, 0] 0 n0 (blockK 0 (sK zEb Tryz.f63 [1, 1, 1] 0 (eK Tryz.f63 R))))))))
def zcg (a0 : List (List Int)) (g1 : FuncId) (cap1 : List D) (R : D → Prop) (n0 : Nat) (v1 : Int) (out2 : List (List Int)) : Prop := LP zEb Tryz.f63 [1, 1, 0, 1, 0, 0] 0 n0 ⟨[(1, .clo g1 (some [.bool]) cap1), (5, .own 5), (11, dS a0), (12, dI (a0.length : Int)), (13, dI v1)], [(5, .row 26 (.list .int) out2)]⟩ (blockK 0 (sK zEb Tryz.f63 [1, 1, 1] 0 (eK Tryz.f63 R)))
theorem z7r (a0 : List (List Int)) (g1 : FuncId) (cap1 : List D) (R : D → Prop) (n0 : Nat) (v1 : Int) (n2 : Nat) (v3 : Int) (out4 : List (List Int)) (k5 : List Int) : zZd a0 g1 cap1 R n0 v1 (n2 + 1) v3 out4 k5 =
 (sel (decide (v3 < ((at' (.list .int) a0 v1.toNat).length : Int)))
 (inb v3 (at' (.list .int) a0 v1.toNat).length = true ∧
 Ent Tryz.prog g1 ∧
 Call1 Tryz.prog g1 ([dI v1, dI (at' .int (at' (.list .int) a0 v1.toNat) v3.toNat)] ++ cap1) .bool fun r6 =>
 sel r6
 (room .int (k5.length + ([at' .int (at' (.list .int) a0 v1.toNat) v3.toNat]).length) = true ∧
 zZd a0 g1 cap1 R n0 v1 n2 (w64 (v3 + 1)) out4 (k5 ++ ([at' .int (at' (.list .int) a0 v1.toNat) v3.toNat])))
 (zZd a0 g1 cap1 R n0 v1 n2 (w64 (v3 + 1)) out4 k5))
 (room (.list .int) (out4.length + ([k5]).length) = true ∧
 zcg a0 g1 cap1 R n0 (w64 (v1 + 1)) (out4 ++ ([k5])))) := by kernel_rfl
theorem z8r (a0 : List (List Int)) (g1 : FuncId) (cap1 : List D) (R : D → Prop) (n0 : Nat) (v1 : Int) (out2 : List (List Int)) : zcg a0 g1 cap1 R (n0 + 1) v1 out2 =
 (sel (decide (v1 < (a0.length : Int)))
 (inb v1 a0.length = true ∧
 ∃ n2, zZd a0 g1 cap1 R n0 v1 n2 0 out2 ([] : List Int))
 (R (dS out2))) := by kernel_rfl
theorem z9r (a0 : List (List Int)) (g1 : FuncId) (cap1 : List D) (R : D → Prop) : FD zEb Tryz.f63 [dS a0, .clo g1 (some [.bool]) cap1] R =
 (∃ n0, zcg a0 g1 cap1 R n0 0 ([] : List (List Int))) := by kernel_rfl
theorem zas (a0 : List (List Int)) (g1 : FuncId) (cap1 : List D) : SatI zEb Tryz.f63 zO [dS a0, .clo g1 (some [.bool]) cap1] := satD Tryz.func63 (by kernel_rfl) Tryz.ntmps63 rfl
def zdg : Ann := { own := [3, 16], live := [(0, ([3, 6, 7, 8], [3]))], n := 19, nils := [], pubs := [] }
def zeg (a0 : List (List Int)) (R : D → Prop) (n0 : Nat) (v1 : Int) (out2 : List (List Int)) : Prop := LP zdg Tryz.f98 [1, 1, 0, 1, 0, 0] 0 n0 ⟨[(3, .own 3), (6, dS a0), (7, dI (a0.length : Int)), (8, dI v1)], [(3, .row 26 (.list .int) out2)]⟩ (blockK 0 (sK zdg Tryz.f98 [1, 1, 1] 0 (eK Tryz.f98 R)))
theorem zbs (a0 : List (List Int)) (R : D → Prop) (n0 : Nat) (v1 : Int) (out2 : List (List Int)) : zeg a0 R (n0 + 1) v1 out2 =
 (sel (decide (v1 < (a0.length : Int)))
 (inb v1 a0.length = true ∧
 ∃ i3 : List Int, SatH Tryz.prog zXc [.sl .int (at' (.list .int) a0 v1.toNat)] [] (.own 3000) [(3000, .row 3 .int i3)] ∧
 room (.list .int) (out2.length + ([i3]).length) = true ∧
 zeg a0 R n0 (w64 (v1 + 1)) (out2 ++ ([i3])))
 (R (dS out2))) := by kernel_rfl
theorem zcs (a0 : List (List Int)) (R : D → Prop) : FD zdg Tryz.f98 [dS a0] R =
 (∃ n0, zeg a0 R n0 0 ([] : List (List Int))) := by kernel_rfl
theorem zds (a0 : List (List Int)) : SatI zdg Tryz.f98 zXb [dS a0] := satD Tryz.func98 (by kernel_rfl) Tryz.ntmps98 rfl
def zsl : Ann := { own := [], live := [], n := 6, nils := [], pubs := [] }
theorem zes (a0 : List (List Int)) (R : D → Prop) : FD zsl Tryz.f101 [dS a0] R =
 ((a0.length : Int) = (a0.length : Int) ∧
 0 ≤ (a0.length : Int) ∧
 room (.list .int) ((a0.length : Int).toNat) = true ∧
 R (dS (List.replicate ((a0.length : Int).toNat) (Ty.dflt (.list .int))))) := by kernel_rfl
theorem zfs (a0 : List (List Int)) : SatI zsl Tryz.f101 zV [dS a0] := satD Tryz.func101 (by kernel_rfl) Tryz.ntmps101 rfl
def ztl : Ann := { own := [], live := [], n := 6, nils := [], pubs := [] }
theorem zgs (a0 : List Int) (R : D → Prop) : FD ztl Tryz.f104 [.sl .int a0] R =
 (R (dB (decide ((a0.length : Int) = 0)))) := by kernel_rfl
theorem zhs (a0 : List Int) : SatI ztl Tryz.f104 zBf [.sl .int a0] := satD Tryz.func104 (by kernel_rfl) Tryz.ntmps104 rfl
end Go.Proofs.YtajnbkhgnppckaaGreatDoor
