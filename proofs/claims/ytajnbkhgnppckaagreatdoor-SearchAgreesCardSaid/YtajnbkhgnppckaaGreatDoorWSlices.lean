/- What the functions of a package do, as equations of plain propositions: printed by a program that carries the code out on symbols. -/
import Derived.Test.YtajnbkhgnppckaaGreatDoorWEv
namespace Go.Proofs.YtajnbkhgnppckaaGreatDoor
open Go.RowKit
set_option linter.unusedVariables false
set_option maxRecDepth 100000
def zaj : Ann := { own := [], live := [], n := 9, nils := [], pubs := [] }
theorem zJp (a0 : List Int) (g1 : FuncId) (cap1 : List D) (R : D → Prop) : FD zaj Tryz.f74 [.sl .int a0, .clo g1 (some [.bool]) cap1] R =
 (Call1 Tryz.prog zte [.sl .int a0, .clo g1 (some [.bool]) cap1] .int fun s1 =>
 R (dB (decide (0 ≤ s1)))) := by kernel_rfl
theorem zKp (a0 : List Int) (g1 : FuncId) (cap1 : List D) : SatI zaj Tryz.f74 zKb [.sl .int a0, .clo g1 (some [.bool]) cap1] := satD Tryz.func74 (by kernel_rfl) Tryz.ntmps74 rfl
def zbj : Ann := { own := [2, 5, 7], live := [], n := 8, nils := [], pubs := [] }
theorem zLp (s0 : List LitD) (R : D → List (Nat × HObj) → Prop) : FH zbj Tryz.f82 [.sl .lit s0] [] [] true R =
 (∀ b1 : Bool, (b1 = true → s0 = []) →
 sel b1
 (R (.own 3000) [(3000, .row 86 .lit ([] : List LitD))])
 (room .lit (([] : List LitD).length + s0.length) = true ∧
 R (.own 3000) [(3000, .row 86 .lit (([] : List LitD) ++ s0))])) := by kernel_rfl
theorem zMp (s0 : List LitD) : SatHI zbj Tryz.f82 zhe [.sl .lit s0] [] [] true := satHD Tryz.func82 (by kernel_rfl) Tryz.ntmps82 rfl
def znc : Ann := { own := [33], live := [(0, ([0, 3, 9, 10, 11], [])), (2, ([6, 25, 26, 27], [31536]))], n := 36, nils := [], pubs := [] }
def z2e (a0 : List (List LitD)) (R : D → Prop) (n2 : Nat) (v4 : Int) (l5 : List LitD) : Prop := LP znc Tryz.f83 [1, 1, 1, 1, 0, 1, 0, 0] 2 n2 ⟨[(6, .own 31536), (25, .sl (.list .lit) a0), (26, dI (a0.length : Int)), (27, dI v4)], [(31536, .row 86 .lit l5)]⟩ (blockK 2 (sK znc Tryz.f83 [1, 1, 1, 1, 1] 0 (eK Tryz.f83 R)))
def z3e (a0 : List (List LitD)) (R : D → Prop) (n0 : Nat) (size1 : Int) (v2 : Int) : Prop := LP znc Tryz.f83 [1, 1, 0, 1, 0, 0] 0 n0 ⟨[(0, .sl (.list .lit) a0), (3, dI size1), (9, .sl (.list .lit) a0), (10, dI (a0.length : Int)), (11, dI v2)], []⟩ (blockK 0 (sK znc Tryz.f83 [1, 1, 1] 0 (eK Tryz.f83 R)))
theorem zNp (a0 : List (List LitD)) (R : D → Prop) (n2 : Nat) (v4 : Int) (l5 : List LitD) : z2e a0 R (n2 + 1) v4 l5 =
 (sel (decide (v4 < (a0.length : Int)))
 (inb v4 a0.length = true ∧
 room .lit (l5.length + (at' (.list .lit) a0 v4.toNat).length) = true ∧
 z2e a0 R n2 (w64 (v4 + 1)) (l5 ++ (at' (.list .lit) a0 v4.toNat)))
 (R (.sl .lit l5))) := by kernel_rfl
theorem zOp (a0 : List (List LitD)) (R : D → Prop) (n0 : Nat) (size1 : Int) (v2 : Int) : z3e a0 R (n0 + 1) size1 v2 =
 (sel (decide (v2 < (a0.length : Int)))
 (inb v2 a0.length = true ∧
 sel (decide ((w64 (size1 + ((at' (.list .lit) a0 v2.toNat).length : Int))) < 0))
 (False)
 (z3e a0 R n0 (w64 (size1 + ((at' (.list .lit) a0 v2.toNat).length : Int))) (w64 (v2 + 1))))
 (∃ l3 : List LitD, SatH Tryz.prog z0g [.nil, dI size1] [] (.own 3000) [(3000, .row 86 .lit l3)] ∧
 ∃ n2, z2e a0 R n2 0 l3)) := by kernel_rfl
theorem zPp (a0 : List (List LitD)) (R : D → Prop) : FD znc Tryz.f83 [.sl (.list .lit) a0] R =
 (∃ n0, z3e a0 R n0 0 0) := by kernel_rfl
theorem zQp (a0 : List (List LitD)) : SatI znc Tryz.f83 zie [.sl (.list .lit) a0] := satD Tryz.func83 (by kernel_rfl) Tryz.ntmps83 rfl
def zcj : Ann := { own := [], live := [], n := 9, nils := [], pubs := [] }
theorem zRp (a0 : List VarD) (g1 : FuncId) (cap1 : List D) (R : D → Prop) : FD zcj Tryz.f89 [.sl .var a0, .clo g1 (some [.bool]) cap1] R =
 (Call1 Tryz.prog zxe [.sl .var a0, .clo g1 (some [.bool]) cap1] .int fun s1 =>
 R (dB (decide (0 ≤ s1)))) := by kernel_rfl
theorem zSp (a0 : List VarD) (g1 : FuncId) (cap1 : List D) : SatI zcj Tryz.f89 zme [.sl .var a0, .clo g1 (some [.bool]) cap1] := satD Tryz.func89 (by kernel_rfl) Tryz.ntmps89 rfl
def zdj : Ann := { own := [], live := [], n := 9, nils := [], pubs := [] }
theorem zTp (a0 : List LitD) (g1 : FuncId) (cap1 : List D) (R : D → Prop) : FD zdj Tryz.f94 [.sl .lit a0, .clo g1 (some [.bool]) cap1] R =
 (Call1 Tryz.prog zze [.sl .lit a0, .clo g1 (some [.bool]) cap1] .int fun s1 =>
 R (dB (decide (0 ≤ s1)))) := by kernel_rfl
theorem zUp (a0 : List LitD) (g1 : FuncId) (cap1 : List D) : SatI zdj Tryz.f94 zfc [.sl .lit a0, .clo g1 (some [.bool]) cap1] := satD Tryz.func94 (by kernel_rfl) Tryz.ntmps94 rfl
def zej : Ann := { own := [], live := [], n := 9, nils := [], pubs := [] }
theorem zVp (a0 : List (List Int)) (g1 : FuncId) (cap1 : List D) (R : D → Prop) : FD zej Tryz.f96 [dS a0, .clo g1 (some [.bool]) cap1] R =
 (Call1 Tryz.prog zAe [dS a0, .clo g1 (some [.bool]) cap1] .int fun s1 =>
 R (dB (decide (0 ≤ s1)))) := by kernel_rfl
theorem zWp (a0 : List (List Int)) (g1 : FuncId) (cap1 : List D) : SatI zej Tryz.f96 zU [dS a0, .clo g1 (some [.bool]) cap1] := satD Tryz.func96 (by kernel_rfl) Tryz.ntmps96 rfl
def zfj : Ann := { own := [], live := [], n := 9, nils := [], pubs := [] }
theorem zXp (a0 : List (List Int)) (g1 : FuncId) (cap1 : List D) (R : D → Prop) : FD zfj Tryz.f103 [dS a0, .clo g1 (some [.bool]) cap1] R =
 (Call1 Tryz.prog zHe [dS a0, .clo g1 (some [.bool]) cap1] .int fun s1 =>
 R (dB (decide (0 ≤ s1)))) := by kernel_rfl
theorem zYp (a0 : List (List Int)) (g1 : FuncId) (cap1 : List D) : SatI zfj Tryz.f103 zre [dS a0, .clo g1 (some [.bool]) cap1] := satD Tryz.func103 (by kernel_rfl) Tryz.ntmps103 rfl
def z4e : Ann := { own := [], live := [(0, ([0, 1, 7, 8], []))], n := 19, nils := [], pubs := [] }
def z2g (a0 : List Int) (g1 : FuncId) (cap1 : List D) (R : D → Prop) (n0 : Nat) (v1 : Int) : Prop := LP z4e Tryz.f111 [1, 0, 1, 0, 0] 0 n0 ⟨[(0, .sl .int a0), (1, .clo g1 (some [.bool]) cap1), (7, dI (a0.length : Int)), (8, dI v1)], []⟩ (blockK 0 (sK z4e Tryz.f111 [1, 1] 0 (eK Tryz.f111 R)))
theorem zgj (a0 : List Int) (g1 : FuncId) (cap1 : List D) (R : D → Prop) (n0 : Nat) (v1 : Int) : z2g a0 g1 cap1 R (n0 + 1) v1 =
 (sel (decide (v1 < (a0.length : Int)))
 (inb v1 a0.length = true ∧
 Ent Tryz.prog g1 ∧
 Call1 Tryz.prog g1 ([dI (at' .int a0 v1.toNat)] ++ cap1) .bool fun r2 =>
 sel r2
 (R (dI v1))
 (z2g a0 g1 cap1 R n0 (w64 (v1 + 1))))
 (R (dI (-1)))) := by kernel_rfl
theorem zZp (a0 : List Int) (g1 : FuncId) (cap1 : List D) (R : D → Prop) : FD z4e Tryz.f111 [.sl .int a0, .clo g1 (some [.bool]) cap1] R =
 (∃ n0, z2g a0 g1 cap1 R n0 0) := by kernel_rfl
theorem z0p (a0 : List Int) (g1 : FuncId) (cap1 : List D) : SatI z4e Tryz.f111 zte [.sl .int a0, .clo g1 (some [.bool]) cap1] := satD Tryz.func111 (by kernel_rfl) Tryz.ntmps111 rfl
def z5e : Ann := { own := [], live := [(0, ([0, 1, 12, 13], []))], n := 26, nils := [], pubs := [] }
def z6e (a0 : List Int) (a1 : List Int) (R : D → Prop) (n0 : Nat) (v1 : Int) : Prop := LP z5e Tryz.f117 [1, 1, 0, 1, 0, 0] 0 n0 ⟨[(0, .sl .int a0), (1, .sl .int a1), (12, dI (a0.length : Int)), (13, dI v1)], []⟩ (blockK 0 (sK z5e Tryz.f117 [1, 1, 1] 0 (eK Tryz.f117 R)))
theorem zhj (a0 : List Int) (a1 : List Int) (R : D → Prop) (n0 : Nat) (v1 : Int) : z6e a0 a1 R (n0 + 1) v1 =
 (sel (decide (v1 < (a0.length : Int)))
 (inb v1 a0.length = true ∧
 inb v1 a1.length = true ∧
 sel (!decide ((at' .int a0 v1.toNat) = (at' .int a1 v1.toNat)))
 (R (dB false))
 (z6e a0 a1 R n0 (w64 (v1 + 1))))
 (R (dB true))) := by kernel_rfl
theorem z1p (a0 : List Int) (a1 : List Int) (R : D → Prop) : FD z5e Tryz.f117 [.sl .int a0, .sl .int a1] R =
 (sel (!decide ((a0.length : Int) = (a1.length : Int)))
 (R (dB false))
 (∃ n0, z6e a0 a1 R n0 0)) := by kernel_rfl
theorem z2p (a0 : List Int) (a1 : List Int) : SatI z5e Tryz.f117 zQ [.sl .int a0, .sl .int a1] := satD Tryz.func117 (by kernel_rfl) Tryz.ntmps117 rfl
def zij : Ann := { own := [2, 5, 7], live := [], n := 8, nils := [], pubs := [] }
theorem z3p (s0 : List Int) (R : D → List (Nat × HObj) → Prop) : FH zij Tryz.f118 [.sl .int s0] [] [] true R =
 (∀ b1 : Bool, (b1 = true → s0 = []) →
 sel b1
 (R (.own 3000) [(3000, .row 3 .int ([] : List Int))])
 (room .int (([] : List Int).length + s0.length) = true ∧
 R (.own 3000) [(3000, .row 3 .int (([] : List Int) ++ s0))])) := by kernel_rfl
theorem z4p (s0 : List Int) : SatHI zij Tryz.f118 zgc [.sl .int s0] [] [] true := satHD Tryz.func118 (by kernel_rfl) Tryz.ntmps118 rfl
def z7e : Ann := { own := [], live := [(0, ([1, 2, 15, 16, 17], []))], n := 32, nils := [], pubs := [] }
def z8c (a0 : List (List Int)) (a1 : List (List Int)) (g2 : FuncId) (cap2 : List D) (R : D → Prop) (n0 : Nat) (v1 : Int) : Prop := LP z7e Tryz.f126 [1, 1, 0, 1, 0, 0] 0 n0 ⟨[(1, dS a1), (2, .clo g2 (some [.bool]) cap2), (15, dS a0), (16, dI (a0.length : Int)), (17, dI v1)], []⟩ (blockK 0 (sK z7e Tryz.f126 [1, 1, 1] 0 (eK Tryz.f126 R)))
theorem z8e (a0 : List (List Int)) (a1 : List (List Int)) (g2 : FuncId) (cap2 : List D) (R : D → Prop) (n0 : Nat) (v1 : Int) : z8c a0 a1 g2 cap2 R (n0 + 1) v1 =
 (sel (decide (v1 < (a0.length : Int)))
 (inb v1 a0.length = true ∧
 inb v1 a1.length = true ∧
 Ent Tryz.prog g2 ∧
 Call1 Tryz.prog g2 ([.sl .int (at' (.list .int) a0 v1.toNat), .sl .int (at' (.list .int) a1 v1.toNat)] ++ cap2) .bool fun r2 =>
 sel (!r2)
 (R (dB false))
 (z8c a0 a1 g2 cap2 R n0 (w64 (v1 + 1))))
 (R (dB true))) := by kernel_rfl
theorem zjj (a0 : List (List Int)) (a1 : List (List Int)) (g2 : FuncId) (cap2 : List D) (R : D → Prop) : FD z7e Tryz.f126 [dS a0, dS a1, .clo g2 (some [.bool]) cap2] R =
 (sel (!decide ((a0.length : Int) = (a1.length : Int)))
 (R (dB false))
 (∃ n0, z8c a0 a1 g2 cap2 R n0 0)) := by kernel_rfl
theorem zkj (a0 : List (List Int)) (a1 : List (List Int)) (g2 : FuncId) (cap2 : List D) : SatI z7e Tryz.f126 zNb [dS a0, dS a1, .clo g2 (some [.bool]) cap2] := satD Tryz.func126 (by kernel_rfl) Tryz.ntmps126 rfl
def z9e : Ann := { own := [], live := [(0, ([0, 1, 7, 8], []))], n := 19, nils := [], pubs := [] }
def z3g (a0 : List VarD) (g1 : FuncId) (cap1 : List D) (R : D → Prop) (n0 : Nat) (v1 : Int) : Prop := LP z9e Tryz.f130 [1, 0, 1, 0, 0] 0 n0 ⟨[(0, .sl .var a0), (1, .clo g1 (some [.bool]) cap1), (7, dI (a0.length : Int)), (8, dI v1)], []⟩ (blockK 0 (sK z9e Tryz.f130 [1, 1] 0 (eK Tryz.f130 R)))
theorem zlj (a0 : List VarD) (g1 : FuncId) (cap1 : List D) (R : D → Prop) (n0 : Nat) (v1 : Int) : z3g a0 g1 cap1 R (n0 + 1) v1 =
 (sel (decide (v1 < (a0.length : Int)))
 (inb v1 a0.length = true ∧
 Ent Tryz.prog g1 ∧
 Call1 Tryz.prog g1 ([dV (at' .var a0 v1.toNat)] ++ cap1) .bool fun r2 =>
 sel r2
 (R (dI v1))
 (z3g a0 g1 cap1 R n0 (w64 (v1 + 1))))
 (R (dI (-1)))) := by kernel_rfl
theorem z5p (a0 : List VarD) (g1 : FuncId) (cap1 : List D) (R : D → Prop) : FD z9e Tryz.f130 [.sl .var a0, .clo g1 (some [.bool]) cap1] R =
 (∃ n0, z3g a0 g1 cap1 R n0 0) := by kernel_rfl
theorem z6p (a0 : List VarD) (g1 : FuncId) (cap1 : List D) : SatI z9e Tryz.f130 zxe [.sl .var a0, .clo g1 (some [.bool]) cap1] := satD Tryz.func130 (by kernel_rfl) Tryz.ntmps130 rfl
def zaf : Ann := { own := [], live := [(0, ([0, 1, 7, 8], []))], n := 19, nils := [], pubs := [] }
def z4g (a0 : List LitD) (g1 : FuncId) (cap1 : List D) (R : D → Prop) (n0 : Nat) (v1 : Int) : Prop := LP zaf Tryz.f134 [1, 0, 1, 0, 0] 0 n0 ⟨[(0, .sl .lit a0), (1, .clo g1 (some [.bool]) cap1), (7, dI (a0.length : Int)), (8, dI v1)], []⟩ (blockK 0 (sK zaf Tryz.f134 [1, 1] 0 (eK Tryz.f134 R)))
theorem zmj (a0 : List LitD) (g1 : FuncId) (cap1 : List D) (R : D → Prop) (n0 : Nat) (v1 : Int) : z4g a0 g1 cap1 R (n0 + 1) v1 =
 (sel (decide (v1 < (a0.length : Int)))
 (inb v1 a0.length = true ∧
 Ent Tryz.prog g1 ∧
 Call1 Tryz.prog g1 ([dL (at' .lit a0 v1.toNat)] ++ cap1) .bool fun r2 =>
 sel r2
 (R (dI v1))
 (z4g a0 g1 cap1 R n0 (w64 (v1 + 1))))
 (R (dI (-1)))) := by kernel_rfl
theorem z7p (a0 : List LitD) (g1 : FuncId) (cap1 : List D) (R : D → Prop) : FD zaf Tryz.f134 [.sl .lit a0, .clo g1 (some [.bool]) cap1] R =
 (∃ n0, z4g a0 g1 cap1 R n0 0) := by kernel_rfl
theorem z8p (a0 : List LitD) (g1 : FuncId) (cap1 : List D) : SatI zaf Tryz.f134 zze [.sl .lit a0, .clo g1 (some [.bool]) cap1] := satD Tryz.func134 (by kernel_rfl) Tryz.ntmps134 rfl
def zbf : Ann := { own := [], live := [(0, ([0, 1, 7, 8], []))], n := 19, nils := [], pubs := [] }
def z5g (a0 : List (List Int)) (g1 : FuncId) (cap1 : List D) (R : D → Prop) (n0 : Nat) (v1 : Int) : Prop := LP zbf Tryz.f135 [1, 0, 1, 0, 0] 0 n0 ⟨[(0, dS a0), (1, .clo g1 (some [.bool]) cap1), (7, dI (a0.length : Int)), (8, dI v1)], []⟩ (blockK 0 (sK zbf Tryz.f135 [1, 1] 0 (eK Tryz.f135 R)))
theorem znj (a0 : List (List Int)) (g1 : FuncId) (cap1 : List D) (R : D → Prop) (n0 : Nat) (v1 : Int) : z5g a0 g1 cap1 R (n0 + 1) v1 =
 (sel (decide (v1 < (a0.length : Int)))
 (inb v1 a0.length = true ∧
 Ent Tryz.prog g1 ∧
 Call1 Tryz.prog g1 ([.sl .int (at' (.list .int) a0 v1.toNat)] ++ cap1) .bool fun r2 =>
 sel r2
 (R (dI v1))
 (z5g a0 g1 cap1 R n0 (w64 (v1 + 1))))
 (R (dI (-1)))) := by kernel_rfl
theorem z9p (a0 : List (List Int)) (g1 : FuncId) (cap1 : List D) (R : D → Prop) : FD zbf Tryz.f135 [dS a0, .clo g1 (some [.bool]) cap1] R =
 (∃ n0, z5g a0 g1 cap1 R n0 0) := by kernel_rfl
theorem zaq (a0 : List (List Int)) (g1 : FuncId) (cap1 : List D) : SatI zbf Tryz.f135 zAe [dS a0, .clo g1 (some [.bool]) cap1] := satD Tryz.func135 (by kernel_rfl) Tryz.ntmps135 rfl
def zoj : Ann := { own := [], live := [], n := 9, nils := [], pubs := [] }
theorem zbq (a0 : List Int) (a1 : Int) (R : D → Prop) : FD zoj Tryz.f141 [.sl .int a0, dI a1] R =
 (Call1 Tryz.prog zQe [.sl .int a0, dI a1] .int fun s1 =>
 R (dB (decide (0 ≤ s1)))) := by kernel_rfl
theorem zcq (a0 : List Int) (a1 : Int) : SatI zoj Tryz.f141 zsb [.sl .int a0, dI a1] := satD Tryz.func141 (by kernel_rfl) Tryz.ntmps141 rfl
def zpj : Ann := { own := [], live := [], n := 9, nils := [], pubs := [] }
theorem zdq (a0 : List LitD) (g1 : FuncId) (cap1 : List D) (R : D → Prop) : FD zpj Tryz.f144 [.sl .lit a0, .clo g1 (some [.bool]) cap1] R =
 (Call1 Tryz.prog zRe [.sl .lit a0, .clo g1 (some [.bool]) cap1] .int fun s1 =>
 R (dB (decide (0 ≤ s1)))) := by kernel_rfl
theorem zeq (a0 : List LitD) (g1 : FuncId) (cap1 : List D) : SatI zpj Tryz.f144 z3c [.sl .lit a0, .clo g1 (some [.bool]) cap1] := satD Tryz.func144 (by kernel_rfl) Tryz.ntmps144 rfl
def zcf : Ann := { own := [], live := [(0, ([0, 1, 7, 8], []))], n := 19, nils := [], pubs := [] }
def z6g (a0 : List (List Int)) (g1 : FuncId) (cap1 : List D) (R : D → Prop) (n0 : Nat) (v1 : Int) : Prop := LP zcf Tryz.f148 [1, 0, 1, 0, 0] 0 n0 ⟨[(0, dS a0), (1, .clo g1 (some [.bool]) cap1), (7, dI (a0.length : Int)), (8, dI v1)], []⟩ (blockK 0 (sK zcf Tryz.f148 [1, 1] 0 (eK Tryz.f148 R)))
theorem zqj (a0 : List (List Int)) (g1 : FuncId) (cap1 : List D) (R : D → Prop) (n0 : Nat) (v1 : Int) : z6g a0 g1 cap1 R (n0 + 1) v1 =
 (sel (decide (v1 < (a0.length : Int)))
 (inb v1 a0.length = true ∧
 Ent Tryz.prog g1 ∧
 Call1 Tryz.prog g1 ([.sl .int (at' (.list .int) a0 v1.toNat)] ++ cap1) .bool fun r2 =>
 sel r2
 (R (dI v1))
 (z6g a0 g1 cap1 R n0 (w64 (v1 + 1))))
 (R (dI (-1)))) := by kernel_rfl
theorem zfq (a0 : List (List Int)) (g1 : FuncId) (cap1 : List D) (R : D → Prop) : FD zcf Tryz.f148 [dS a0, .clo g1 (some [.bool]) cap1] R =
 (∃ n0, z6g a0 g1 cap1 R n0 0) := by kernel_rfl
theorem zgq (a0 : List (List Int)) (g1 : FuncId) (cap1 : List D) : SatI zcf Tryz.f148 zHe [dS a0, .clo g1 (some [.bool]) cap1] := satD Tryz.func148 (by kernel_rfl) Tryz.ntmps148 rfl
def zdf : Ann := { own := [], live := [(0, ([0, 1, 7, 8], []))], n := 19, nils := [], pubs := [] }
def z7g (a0 : List TermD) (g1 : FuncId) (cap1 : List D) (R : D → Prop) (n0 : Nat) (v1 : Int) : Prop := LP zdf Tryz.f171 [1, 0, 1, 0, 0] 0 n0 ⟨[(0, .sl .term a0), (1, .clo g1 (some [.bool]) cap1), (7, dI (a0.length : Int)), (8, dI v1)], []⟩ (blockK 0 (sK zdf Tryz.f171 [1, 1] 0 (eK Tryz.f171 R)))
theorem zrj (a0 : List TermD) (g1 : FuncId) (cap1 : List D) (R : D → Prop) (n0 : Nat) (v1 : Int) : z7g a0 g1 cap1 R (n0 + 1) v1 =
 (sel (decide (v1 < (a0.length : Int)))
 (inb v1 a0.length = true ∧
 Ent Tryz.prog g1 ∧
 Call1 Tryz.prog g1 ([.agg [dI ((at' .term a0 v1.toNat).v), dI ((at' .term a0 v1.toNat).times)]] ++ cap1) .bool fun r2 =>
 sel r2
 (R (dI v1))
 (z7g a0 g1 cap1 R n0 (w64 (v1 + 1))))
 (R (dI (-1)))) := by kernel_rfl
theorem zhq (a0 : List TermD) (g1 : FuncId) (cap1 : List D) (R : D → Prop) : FD zdf Tryz.f171 [.sl .term a0, .clo g1 (some [.bool]) cap1] R =
 (∃ n0, z7g a0 g1 cap1 R n0 0) := by kernel_rfl
theorem ziq (a0 : List TermD) (g1 : FuncId) (cap1 : List D) : SatI zdf Tryz.f171 z4c [.sl .term a0, .clo g1 (some [.bool]) cap1] := satD Tryz.func171 (by kernel_rfl) Tryz.ntmps171 rfl
def zsj : Ann := { own := [2, 5, 7], live := [], n := 8, nils := [], pubs := [] }
theorem zjq (s0 : List (List Int)) (R : D → List (Nat × HObj) → Prop) : FH zsj Tryz.f175 [dS s0] [] [] true R =
 (∀ b1 : Bool, (b1 = true → s0 = []) →
 sel b1
 (R (.own 3000) [(3000, .row 26 (.list .int) ([] : List (List Int)))])
 (room (.list .int) (([] : List (List Int)).length + s0.length) = true ∧
 R (.own 3000) [(3000, .row 26 (.list .int) (([] : List (List Int)) ++ s0))])) := by kernel_rfl
theorem zkq (s0 : List (List Int)) : SatHI zsj Tryz.f175 zPe [dS s0] [] [] true := satHD Tryz.func175 (by kernel_rfl) Tryz.ntmps175 rfl
def zef : Ann := { own := [], live := [(0, ([0, 1, 7, 8], []))], n := 19, nils := [], pubs := [] }
def z8g (a0 : List Int) (a1 : Int) (R : D → Prop) (n0 : Nat) (v1 : Int) : Prop := LP zef Tryz.f177 [1, 0, 1, 0, 0] 0 n0 ⟨[(0, .sl .int a0), (1, dI a1), (7, dI (a0.length : Int)), (8, dI v1)], []⟩ (blockK 0 (sK zef Tryz.f177 [1, 1] 0 (eK Tryz.f177 R)))
theorem ztj (a0 : List Int) (a1 : Int) (R : D → Prop) (n0 : Nat) (v1 : Int) : z8g a0 a1 R (n0 + 1) v1 =
 (sel (decide (v1 < (a0.length : Int)))
 (inb v1 a0.length = true ∧
 sel (decide (a1 = (at' .int a0 v1.toNat)))
 (R (dI v1))
 (z8g a0 a1 R n0 (w64 (v1 + 1))))
 (R (dI (-1)))) := by kernel_rfl
theorem zlq (a0 : List Int) (a1 : Int) (R : D → Prop) : FD zef Tryz.f177 [.sl .int a0, dI a1] R =
 (∃ n0, z8g a0 a1 R n0 0) := by kernel_rfl
theorem zmq (a0 : List Int) (a1 : Int) : SatI zef Tryz.f177 zQe [.sl .int a0, dI a1] := satD Tryz.func177 (by kernel_rfl) Tryz.ntmps177 rfl
def zff : Ann := { own := [], live := [(0, ([0, 1, 7, 8], []))], n := 19, nils := [], pubs := [] }
def z9g (a0 : List LitD) (g1 : FuncId) (cap1 : List D) (R : D → Prop) (n0 : Nat) (v1 : Int) : Prop := LP zff Tryz.f178 [1, 0, 1, 0, 0] 0 n0 ⟨[(0, .sl .lit a0), (1, .clo g1 (some [.bool]) cap1), (7, dI (a0.length : Int)), (8, dI v1)], []⟩ (blockK 0 (sK zff Tryz.f178 [1, 1] 0 (eK Tryz.f178 R)))
theorem zuj (a0 : List LitD) (g1 : FuncId) (cap1 : List D) (R : D → Prop) (n0 : Nat) (v1 : Int) : z9g a0 g1 cap1 R (n0 + 1) v1 =
 (sel (decide (v1 < (a0.length : Int)))
 (inb v1 a0.length = true ∧
 Ent Tryz.prog g1 ∧
 Call1 Tryz.prog g1 ([dL (at' .lit a0 v1.toNat)] ++ cap1) .bool fun r2 =>
 sel r2
 (R (dI v1))
 (z9g a0 g1 cap1 R n0 (w64 (v1 + 1))))
 (R (dI (-1)))) := by kernel_rfl
theorem znq (a0 : List LitD) (g1 : FuncId) (cap1 : List D) (R : D → Prop) : FD zff Tryz.f178 [.sl .lit a0, .clo g1 (some [.bool]) cap1] R =
 (∃ n0, z9g a0 g1 cap1 R n0 0) := by kernel_rfl
theorem zoq (a0 : List LitD) (g1 : FuncId) (cap1 : List D) : SatI zff Tryz.f178 zRe [.sl .lit a0, .clo g1 (some [.bool]) cap1] := satD Tryz.func178 (by kernel_rfl) Tryz.ntmps178 rfl
def zoc : Ann := { own := [33], live := [(0, ([0, 3, 9, 10, 11], [])), (2, ([6, 25, 26, 27], [31536]))], n := 36, nils := [], pubs := [] }
def zgf (a0 : List (List LitD)) (R : D → Prop) (n2 : Nat) (v4 : Int) (l5 : List LitD) : Prop := LP zoc Tryz.f206 [1, 1, 1, 1, 0, 1, 0, 0] 2 n2 ⟨[(6, .own 31536), (25, .sl (.list .lit) a0), (26, dI (a0.length : Int)), (27, dI v4)], [(31536, .row 86 .lit l5)]⟩ (blockK 2 (sK zoc Tryz.f206 [1, 1, 1, 1, 1] 0 (eK Tryz.f206 R)))
def zhf (a0 : List (List LitD)) (R : D → Prop) (n0 : Nat) (size1 : Int) (v2 : Int) : Prop := LP zoc Tryz.f206 [1, 1, 0, 1, 0, 0] 0 n0 ⟨[(0, .sl (.list .lit) a0), (3, dI size1), (9, .sl (.list .lit) a0), (10, dI (a0.length : Int)), (11, dI v2)], []⟩ (blockK 0 (sK zoc Tryz.f206 [1, 1, 1] 0 (eK Tryz.f206 R)))
theorem zpq (a0 : List (List LitD)) (R : D → Prop) (n2 : Nat) (v4 : Int) (l5 : List LitD) : zgf a0 R (n2 + 1) v4 l5 =
 (sel (decide (v4 < (a0.length : Int)))
 (inb v4 a0.length = true ∧
 room .lit (l5.length + (at' (.list .lit) a0 v4.toNat).length) = true ∧
 zgf a0 R n2 (w64 (v4 + 1)) (l5 ++ (at' (.list .lit) a0 v4.toNat)))
 (R (.sl .lit l5))) := by kernel_rfl
theorem zqq (a0 : List (List LitD)) (R : D → Prop) (n0 : Nat) (size1 : Int) (v2 : Int) : zhf a0 R (n0 + 1) size1 v2 =
 (sel (decide (v2 < (a0.length : Int)))
 (inb v2 a0.length = true ∧
 sel (decide ((w64 (size1 + ((at' (.list .lit) a0 v2.toNat).length : Int))) < 0))
 (False)
 (zhf a0 R n0 (w64 (size1 + ((at' (.list .lit) a0 v2.toNat).length : Int))) (w64 (v2 + 1))))
 (∃ l3 : List LitD, SatH Tryz.prog z1g [.nil, dI size1] [] (.own 3000) [(3000, .row 86 .lit l3)] ∧
 ∃ n2, zgf a0 R n2 0 l3)) := by kernel_rfl
theorem zrq (a0 : List (List LitD)) (R : D → Prop) : FD zoc Tryz.f206 [.sl (.list .lit) a0] R =
 (∃ n0, zhf a0 R n0 0 0) := by kernel_rfl
theorem zsq (a0 : List (List LitD)) : SatI zoc Tryz.f206 zmc [.sl (.list .lit) a0] := satD Tryz.func206 (by kernel_rfl) Tryz.ntmps206 rfl
end Go.Proofs.YtajnbkhgnppckaaGreatDoor
