/- What the functions of a package do, as equations of plain propositions: printed by a program that carries the code out on symbols. -/
import Derived.Test.YtajnbkhgnppckaaGreatDoorWEv
namespace Go.Proofs.YtajnbkhgnppckaaGreatDoor
open Go.RowKit
set_option linter.unusedVariables false
set_option maxRecDepth 100000
def zfb : Ann := { own := [3, 5, 6, 26, 30], live := [(0, ([3, 9, 10, 11], [3])), (2, ([3, 5, 6, 7, 9, 10, 11], [3, 5, 6]))], n := 33, nils := [], pubs := [] }
def z4e (a0 : MdlD) (R : D → Prop) (n0 : Nat) (v1 : Int) (n2 : Nat) (n3 : Int) (out4 : List (List Int)) (l5 : List Int) : Prop := LP zfb Tryz.f38 [1, 1, 0, 1, 0, 0, 1, 1, 0, 0, 1, 1, 0, 1, 0, 0] 2 n2 ⟨[(3, .own 3), (5, .ptr 5 0), (6, .own 6), (7, dI n3), (9, .sl .var a0.vars), (10, dI (a0.vars.length : Int)), (11, dI v1)], [(3, .row 26 (.list .int) out4), (5, .cells [.str ((at' .var a0.vars v1.toNat).name), dI ((at' .var a0.vars v1.toNat).lo), dI ((at' .var a0.vars v1.toNat).hi)]), (6, .row 3 .int l5)]⟩ (blockK 2 (sK zfb Tryz.f38 [1, 1, 0, 1, 0, 0, 1, 1, 0, 0, 1, 1, 1] 1 (blockK 1 (sK zfb Tryz.f38 [1, 1, 0, 1, 0, 0, 1, 1, 1] 0 (iK zfb Tryz.f38 [1, 1, 0, 1, 0, 0] 0 n0 (blockK 0 (sK zfb Tryz.f38 [1, 1, 1] 0 (eK Tryz.f38 R))))))))
def z5e (a0 : MdlD) (R : D → Prop) (n0 : Nat) (v1 : Int) (out2 : List (List Int)) : Prop := LP zfb Tryz.f38 [1, 1, 0, 1, 0, 0] 0 n0 ⟨[(3, .own 3), (9, .sl .var a0.vars), (10, dI (a0.vars.length : Int)), (11, dI v1)], [(3, .row 26 (.list .int) out2)]⟩ (blockK 0 (sK zfb Tryz.f38 [1, 1, 1] 0 (eK Tryz.f38 R)))
theorem z2p (a0 : MdlD) (R : D → Prop) (n0 : Nat) (v1 : Int) (n2 : Nat) (n3 : Int) (out4 : List (List Int)) (l5 : List Int) : z4e a0 R n0 v1 (n2 + 1) n3 out4 l5 =
 (sel (decide (n3 ≤ ((at' .var a0.vars v1.toNat).hi)))
 (room .int (l5.length + ([n3]).length) = true ∧
 z4e a0 R n0 v1 n2 (w64 (n3 + 1)) out4 (l5 ++ ([n3])))
 (room (.list .int) (out4.length + ([l5]).length) = true ∧
 z5e a0 R n0 (w64 (v1 + 1)) (out4 ++ ([l5])))) := by kernel_rfl
theorem z3p (a0 : MdlD) (R : D → Prop) (n0 : Nat) (v1 : Int) (out2 : List (List Int)) : z5e a0 R (n0 + 1) v1 out2 =
 (sel (decide (v1 < (a0.vars.length : Int)))
 (inb v1 a0.vars.length = true ∧
 ∃ n2, z4e a0 R n0 v1 n2 ((at' .var a0.vars v1.toNat).lo) out2 ([] : List Int))
 (R (dS out2))) := by kernel_rfl
theorem z4p (a0 : MdlD) (R : D → Prop) : FD zfb Tryz.f38 [dM a0] R =
 (∃ n0, z5e a0 R n0 0 ([] : List (List Int))) := by kernel_rfl
theorem z5p (a0 : MdlD) : SatI zfb Tryz.f38 zVb [dM a0] := satD Tryz.func38 (by kernel_rfl) Tryz.ntmps38 rfl
def zFj : Ann := { own := [], live := [], n := 5, nils := [], pubs := [] }
theorem z6p (a0 : List (List Int)) (R : D → Prop) : FD zFj Tryz.f61 [dS a0] R =
 (Call1 Tryz.prog zye [dS a0, .clo zze none []] .bool fun s1 =>
 R (dB s1)) := by kernel_rfl
theorem z7p (a0 : List (List Int)) : SatI zFj Tryz.f61 zf [dS a0] := satD Tryz.func61 (by kernel_rfl) Tryz.ntmps61 rfl
def zgb : Ann := { own := [5, 8, 31, 36], live := [(0, ([1, 5, 11, 12, 13], [5])), (2, ([1, 5, 6, 8, 11, 12, 13, 18, 19, 20], [5, 8]))], n := 39, nils := [], pubs := [] }
def z7c (a0 : List (List Int)) (g1 : FuncId) (cap1 : List D) (R : D → Prop) (n0 : Nat) (v1 : Int) (n2 : Nat) (v3 : Int) (out4 : List (List Int)) (k5 : List Int) : Prop := LP zgb Tryz.f63 [1, 1, 0, 1, 0, 0, 1, 1, 0, 0, 1, 1, 0, 1, 0, 0] 2 n2 ⟨[(1, .clo g1 (some [.bool]) cap1), (5, .own 5), (6, dI v1), (8, .own 8), (11, dS a0), (12, dI (a0.length : Int)), (13, dI v1), (18, .sl .int (at' (.list .int) a0 v1.toNat)), (19, dI ((at' (.list .int) a0 v1.toNat).length : Int)), (20, dI v3)], [(5, .row 26 (.list .int) out4), (8, .row 3 .int k5)]⟩ (blockK 2 (sK zgb Tryz.f63 [1, 1, 0, 1, 0, 0, 1, 1, 0, 0, 1, 1, 1] 1 (blockK 1 (sK zgb Tryz.f63 [1, 1, 0, 1, 0, 0, 1, 1, 1] 0 (iK zgb Tryz.f63 [1, 1, 0, 1, 0, 0] 0 n0 (blockK 0 (sK zgb Tryz.f63 [1, 1, 1] 0 (eK Tryz.f63 R))))))))
def z6e (a0 : List (List Int)) (g1 : FuncId) (cap1 : List D) (R : D → Prop) (n0 : Nat) (v1 : Int) (out2 : List (List Int)) : Prop := LP zgb Tryz.f63 [1, 1, 0, 1, 0, 0] 0 n0 ⟨[(1, .clo g1 (some [.bool]) cap1), (5, .own 5), (11, dS a0), (12, dI (a0.length : Int)), (13, dI v1)], [(5, .row 26 (.list .int) out2)]⟩ (blockK 0 (sK zgb Tryz.f63 [1, 1, 1] 0 (eK Tryz.f63 R)))
theorem z8p (a0 : List (List Int)) (g1 : FuncId) (cap1 : List D) (R : D → Prop) (n0 : Nat) (v1 : Int) (n2 : Nat) (v3 : Int) (out4 : List (List Int)) (k5 : List Int) : z7c a0 g1 cap1 R n0 v1 (n2 + 1) v3 out4 k5 =
 (sel (decide (v3 < ((at' (.list .int) a0 v1.toNat).length : Int)))
 (inb v3 (at' (.list .int) a0 v1.toNat).length = true ∧
 Ent Tryz.prog g1 ∧
 Call1 Tryz.prog g1 ([dI v1, dI (at' .int (at' (.list .int) a0 v1.toNat) v3.toNat)] ++ cap1) .bool fun r6 =>
 sel r6
 (room .int (k5.length + ([at' .int (at' (.list .int) a0 v1.toNat) v3.toNat]).length) = true ∧
 z7c a0 g1 cap1 R n0 v1 n2 (w64 (v3 + 1)) out4 (k5 ++ ([at' .int (at' (.list .int) a0 v1.toNat) v3.toNat])))
 (z7c a0 g1 cap1 R n0 v1 n2 (w64 (v3 + 1)) out4 k5))
 (room (.list .int) (out4.length + ([k5]).length) = true ∧
 z6e a0 g1 cap1 R n0 (w64 (v1 + 1)) (out4 ++ ([k5])))) := by kernel_rfl
theorem z9p (a0 : List (List Int)) (g1 : FuncId) (cap1 : List D) (R : D → Prop) (n0 : Nat) (v1 : Int) (out2 : List (List Int)) : z6e a0 g1 cap1 R (n0 + 1) v1 out2 =
 (sel (decide (v1 < (a0.length : Int)))
 (inb v1 a0.length = true ∧
 ∃ n2, z7c a0 g1 cap1 R n0 v1 n2 0 out2 ([] : List Int))
 (R (dS out2))) := by kernel_rfl
theorem zaq (a0 : List (List Int)) (g1 : FuncId) (cap1 : List D) (R : D → Prop) : FD zgb Tryz.f63 [dS a0, .clo g1 (some [.bool]) cap1] R =
 (∃ n0, z6e a0 g1 cap1 R n0 0 ([] : List (List Int))) := by kernel_rfl
theorem zbq (a0 : List (List Int)) (g1 : FuncId) (cap1 : List D) : SatI zgb Tryz.f63 zC [dS a0, .clo g1 (some [.bool]) cap1] := satD Tryz.func63 (by kernel_rfl) Tryz.ntmps63 rfl
def z7e : Ann := { own := [3, 16], live := [(0, ([3, 6, 7, 8], [3]))], n := 19, nils := [], pubs := [] }
def z8e (a0 : List (List Int)) (R : D → Prop) (n0 : Nat) (v1 : Int) (out2 : List (List Int)) : Prop := LP z7e Tryz.f98 [1, 1, 0, 1, 0, 0] 0 n0 ⟨[(3, .own 3), (6, dS a0), (7, dI (a0.length : Int)), (8, dI v1)], [(3, .row 26 (.list .int) out2)]⟩ (blockK 0 (sK z7e Tryz.f98 [1, 1, 1] 0 (eK Tryz.f98 R)))
theorem zcq (a0 : List (List Int)) (R : D → Prop) (n0 : Nat) (v1 : Int) (out2 : List (List Int)) : z8e a0 R (n0 + 1) v1 out2 =
 (sel (decide (v1 < (a0.length : Int)))
 (inb v1 a0.length = true ∧
 ∃ i3 : List Int, SatH Tryz.prog zoc [.sl .int (at' (.list .int) a0 v1.toNat)] [] (.own 3000) [(3000, .row 3 .int i3)] ∧
 room (.list .int) (out2.length + ([i3]).length) = true ∧
 z8e a0 R n0 (w64 (v1 + 1)) (out2 ++ ([i3])))
 (R (dS out2))) := by kernel_rfl
theorem zdq (a0 : List (List Int)) (R : D → Prop) : FD z7e Tryz.f98 [dS a0] R =
 (∃ n0, z8e a0 R n0 0 ([] : List (List Int))) := by kernel_rfl
theorem zeq (a0 : List (List Int)) : SatI z7e Tryz.f98 zvb [dS a0] := satD Tryz.func98 (by kernel_rfl) Tryz.ntmps98 rfl
def zGj : Ann := { own := [], live := [], n := 6, nils := [], pubs := [] }
theorem zfq (a0 : List (List Int)) (R : D → Prop) : FD zGj Tryz.f101 [dS a0] R =
 ((a0.length : Int) = (a0.length : Int) ∧
 0 ≤ (a0.length : Int) ∧
 room (.list .int) ((a0.length : Int).toNat) = true ∧
 R (dS (List.replicate ((a0.length : Int).toNat) (Ty.dflt (.list .int))))) := by kernel_rfl
theorem zgq (a0 : List (List Int)) : SatI zGj Tryz.f101 zG [dS a0] := satD Tryz.func101 (by kernel_rfl) Tryz.ntmps101 rfl
def zHj : Ann := { own := [], live := [], n := 6, nils := [], pubs := [] }
theorem zhq (a0 : List Int) (R : D → Prop) : FD zHj Tryz.f104 [.sl .int a0] R =
 (R (dB (decide ((a0.length : Int) = 0)))) := by kernel_rfl
theorem ziq (a0 : List Int) : SatI zHj Tryz.f104 zze [.sl .int a0] := satD Tryz.func104 (by kernel_rfl) Tryz.ntmps104 rfl
end Go.Proofs.YtajnbkhgnppckaaGreatDoor
