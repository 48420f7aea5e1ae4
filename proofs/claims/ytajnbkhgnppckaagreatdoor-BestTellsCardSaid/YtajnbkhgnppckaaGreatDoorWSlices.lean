/- What the functions of a package do, as equations of plain propositions: printed by a program that carries the code out on symbols. -/
import Derived.Test.YtajnbkhgnppckaaGreatDoorWEv
namespace Go.Proofs.YtajnbkhgnppckaaGreatDoor
open Go.RowKit
set_option linter.unusedVariables false
set_option maxRecDepth 100000
def zul : Ann := { own := [], live := [], n := 9, nils := [], pubs := [] }
theorem zis (a0 : List Int) (g1 : FuncId) (cap1 : List D) (R : D → Prop) : FD zul Tryz.f74 [.sl .int a0, .clo g1 (some [.bool]) cap1] R =
 (Call1 Tryz.prog zDf [.sl .int a0, .clo g1 (some [.bool]) cap1] .int fun s1 =>
 R (dB (decide (0 ≤ s1)))) := by kernel_rfl
theorem zjs (a0 : List Int) (g1 : FuncId) (cap1 : List D) : SatI zul Tryz.f74 zqc [.sl .int a0, .clo g1 (some [.bool]) cap1] := satD Tryz.func74 (by kernel_rfl) Tryz.ntmps74 rfl
def zvl : Ann := { own := [2, 5, 7], live := [], n := 8, nils := [], pubs := [] }
theorem zks (s0 : List LitD) (R : D → List (Nat × HObj) → Prop) : FH zvl Tryz.f82 [.sl .lit s0] [] [] true R =
 (∀ b1 : Bool, (b1 = true → s0 = []) →
 sel b1
 (R (.own 3000) [(3000, .row 86 .lit ([] : List LitD))])
 (room .lit (([] : List LitD).length + s0.length) = true ∧
 R (.own 3000) [(3000, .row 86 .lit (([] : List LitD) ++ s0))])) := by kernel_rfl
theorem zls (s0 : List LitD) : SatHI zvl Tryz.f82 zqf [.sl .lit s0] [] [] true := satHD Tryz.func82 (by kernel_rfl) Tryz.ntmps82 rfl
def z4c : Ann := { own := [33], live := [(0, ([0, 3, 9, 10, 11], [])), (2, ([6, 25, 26, 27], [31536]))], n := 36, nils := [], pubs := [] }
def zfg (a0 : List (List LitD)) (R : D → Prop) (n2 : Nat) (v4 : Int) (l5 : List LitD) : Prop := LP z4c Tryz.f83 [1, 1, 1, 1, 0, 1, 0, 0] 2 n2 ⟨[(6, .own 31536), (25, .sl (.list .lit) a0), (26, dI (a0.length : Int)), (27, dI v4)], [(31536, .row 86 .lit l5)]⟩ (blockK 2 (sK z4c Tryz.f83 [1, 1, 1, 1, 1] 0 (eK Tryz.f83 R)))
def zgg (a0 : List (List LitD)) (R : D → Prop) (n0 : Nat) (size1 : Int) (v2 : Int) : Prop := LP z4c Tryz.f83 [1, 1, 0, 1, 0, 0] 0 n0 ⟨[(0, .sl (.list .lit) a0), (3, dI size1), (9, .sl (.list .lit) a0), (10, dI (a0.length : Int)), (11, dI v2)], []⟩ (blockK 0 (sK z4c Tryz.f83 [1, 1, 1] 0 (eK Tryz.f83 R)))
theorem zms (a0 : List (List LitD)) (R : D → Prop) (n2 : Nat) (v4 : Int) (l5 : List LitD) : zfg a0 R (n2 + 1) v4 l5 =
 (sel (decide (v4 < (a0.length : Int)))
 (inb v4 a0.length = true ∧
 room .lit (l5.length + (at' (.list .lit) a0 v4.toNat).length) = true ∧
 zfg a0 R n2 (w64 (v4 + 1)) (l5 ++ (at' (.list .lit) a0 v4.toNat)))
 (R (.sl .lit l5))) := by kernel_rfl
theorem zns (a0 : List (List LitD)) (R : D → Prop) (n0 : Nat) (size1 : Int) (v2 : Int) : zgg a0 R (n0 + 1) size1 v2 =
 (sel (decide (v2 < (a0.length : Int)))
 (inb v2 a0.length = true ∧
 sel (decide ((w64 (size1 + ((at' (.list .lit) a0 v2.toNat).length : Int))) < 0))
 (False)
 (zgg a0 R n0 (w64 (size1 + ((at' (.list .lit) a0 v2.toNat).length : Int))) (w64 (v2 + 1))))
 (∃ l3 : List LitD, SatH Tryz.prog z4i [.nil, dI size1] [] (.own 3000) [(3000, .row 86 .lit l3)] ∧
 ∃ n2, zfg a0 R n2 0 l3)) := by kernel_rfl
theorem zos (a0 : List (List LitD)) (R : D → Prop) : FD z4c Tryz.f83 [.sl (.list .lit) a0] R =
 (∃ n0, zgg a0 R n0 0 0) := by kernel_rfl
theorem zps (a0 : List (List LitD)) : SatI z4c Tryz.f83 zrf [.sl (.list .lit) a0] := satD Tryz.func83 (by kernel_rfl) Tryz.ntmps83 rfl
def zwl : Ann := { own := [], live := [], n := 9, nils := [], pubs := [] }
theorem zqs (a0 : List VarD) (g1 : FuncId) (cap1 : List D) (R : D → Prop) : FD zwl Tryz.f89 [.sl .var a0, .clo g1 (some [.bool]) cap1] R =
 (Call1 Tryz.prog zHf [.sl .var a0, .clo g1 (some [.bool]) cap1] .int fun s1 =>
 R (dB (decide (0 ≤ s1)))) := by kernel_rfl
theorem zrs (a0 : List VarD) (g1 : FuncId) (cap1 : List D) : SatI zwl Tryz.f89 zvf [.sl .var a0, .clo g1 (some [.bool]) cap1] := satD Tryz.func89 (by kernel_rfl) Tryz.ntmps89 rfl
def zxl : Ann := { own := [], live := [], n := 9, nils := [], pubs := [] }
theorem zss (a0 : List LitD) (g1 : FuncId) (cap1 : List D) (R : D → Prop) : FD zxl Tryz.f94 [.sl .lit a0, .clo g1 (some [.bool]) cap1] R =
 (Call1 Tryz.prog zJf [.sl .lit a0, .clo g1 (some [.bool]) cap1] .int fun s1 =>
 R (dB (decide (0 ≤ s1)))) := by kernel_rfl
theorem zts (a0 : List LitD) (g1 : FuncId) (cap1 : List D) : SatI zxl Tryz.f94 zWc [.sl .lit a0, .clo g1 (some [.bool]) cap1] := satD Tryz.func94 (by kernel_rfl) Tryz.ntmps94 rfl
def zyl : Ann := { own := [], live := [], n := 9, nils := [], pubs := [] }
theorem zus (a0 : List (List Int)) (g1 : FuncId) (cap1 : List D) (R : D → Prop) : FD zyl Tryz.f96 [dS a0, .clo g1 (some [.bool]) cap1] R =
 (Call1 Tryz.prog zKf [dS a0, .clo g1 (some [.bool]) cap1] .int fun s1 =>
 R (dB (decide (0 ≤ s1)))) := by kernel_rfl
theorem zvs (a0 : List (List Int)) (g1 : FuncId) (cap1 : List D) : SatI zyl Tryz.f96 znb [dS a0, .clo g1 (some [.bool]) cap1] := satD Tryz.func96 (by kernel_rfl) Tryz.ntmps96 rfl
def zzl : Ann := { own := [], live := [], n := 9, nils := [], pubs := [] }
theorem zws (a0 : List (List Int)) (g1 : FuncId) (cap1 : List D) (R : D → Prop) : FD zzl Tryz.f103 [dS a0, .clo g1 (some [.bool]) cap1] R =
 (Call1 Tryz.prog zRf [dS a0, .clo g1 (some [.bool]) cap1] .int fun s1 =>
 R (dB (decide (0 ≤ s1)))) := by kernel_rfl
theorem zxs (a0 : List (List Int)) (g1 : FuncId) (cap1 : List D) : SatI zzl Tryz.f103 zAf [dS a0, .clo g1 (some [.bool]) cap1] := satD Tryz.func103 (by kernel_rfl) Tryz.ntmps103 rfl
def zhg : Ann := { own := [], live := [(0, ([0, 1, 7, 8], []))], n := 19, nils := [], pubs := [] }
def z6i (a0 : List Int) (g1 : FuncId) (cap1 : List D) (R : D → Prop) (n0 : Nat) (v1 : Int) : Prop := LP zhg Tryz.f111 [1, 0, 1, 0, 0] 0 n0 ⟨[(0, .sl .int a0), (1, .clo g1 (some [.bool]) cap1), (7, dI (a0.length : Int)), (8, dI v1)], []⟩ (blockK 0 (sK zhg Tryz.f111 [1, 1] 0 (eK Tryz.f111 R)))
theorem zAl (a0 : List Int) (g1 : FuncId) (cap1 : List D) (R : D → Prop) (n0 : Nat) (v1 : Int) : z6i a0 g1 cap1 R (n0 + 1) v1 =
 (sel (decide (v1 < (a0.length : Int)))
 (inb v1 a0.length = true ∧
 Ent Tryz.prog g1 ∧
 Call1 Tryz.prog g1 ([dI (at' .int a0 v1.toNat)] ++ cap1) .bool fun r2 =>
 sel r2
 (R (dI v1))
 (z6i a0 g1 cap1 R n0 (w64 (v1 + 1))))
 (R (dI (-1)))) := by kernel_rfl
theorem zys (a0 : List Int) (g1 : FuncId) (cap1 : List D) (R : D → Prop) : FD zhg Tryz.f111 [.sl .int a0, .clo g1 (some [.bool]) cap1] R =
 (∃ n0, z6i a0 g1 cap1 R n0 0) := by kernel_rfl
theorem zzs (a0 : List Int) (g1 : FuncId) (cap1 : List D) : SatI zhg Tryz.f111 zDf [.sl .int a0, .clo g1 (some [.bool]) cap1] := satD Tryz.func111 (by kernel_rfl) Tryz.ntmps111 rfl
def zig : Ann := { own := [], live := [(0, ([0, 1, 12, 13], []))], n := 26, nils := [], pubs := [] }
def zjg (a0 : List Int) (a1 : List Int) (R : D → Prop) (n0 : Nat) (v1 : Int) : Prop := LP zig Tryz.f117 [1, 1, 0, 1, 0, 0] 0 n0 ⟨[(0, .sl .int a0), (1, .sl .int a1), (12, dI (a0.length : Int)), (13, dI v1)], []⟩ (blockK 0 (sK zig Tryz.f117 [1, 1, 1] 0 (eK Tryz.f117 R)))
theorem zBl (a0 : List Int) (a1 : List Int) (R : D → Prop) (n0 : Nat) (v1 : Int) : zjg a0 a1 R (n0 + 1) v1 =
 (sel (decide (v1 < (a0.length : Int)))
 (inb v1 a0.length = true ∧
 inb v1 a1.length = true ∧
 sel (!decide ((at' .int a0 v1.toNat) = (at' .int a1 v1.toNat)))
 (R (dB false))
 (zjg a0 a1 R n0 (w64 (v1 + 1))))
 (R (dB true))) := by kernel_rfl
theorem zAs (a0 : List Int) (a1 : List Int) (R : D → Prop) : FD zig Tryz.f117 [.sl .int a0, .sl .int a1] R =
 (sel (!decide ((a0.length : Int) = (a1.length : Int)))
 (R (dB false))
 (∃ n0, zjg a0 a1 R n0 0)) := by kernel_rfl
theorem zCs (a0 : List Int) (a1 : List Int) : SatI zig Tryz.f117 zib [.sl .int a0, .sl .int a1] := satD Tryz.func117 (by kernel_rfl) Tryz.ntmps117 rfl
def zCl : Ann := { own := [2, 5, 7], live := [], n := 8, nils := [], pubs := [] }
theorem zDs (s0 : List Int) (R : D → List (Nat × HObj) → Prop) : FH zCl Tryz.f118 [.sl .int s0] [] [] true R =
 (∀ b1 : Bool, (b1 = true → s0 = []) →
 sel b1
 (R (.own 3000) [(3000, .row 3 .int ([] : List Int))])
 (room .int (([] : List Int).length + s0.length) = true ∧
 R (.own 3000) [(3000, .row 3 .int (([] : List Int) ++ s0))])) := by kernel_rfl
theorem zEs (s0 : List Int) : SatHI zCl Tryz.f118 zXc [.sl .int s0] [] [] true := satHD Tryz.func118 (by kernel_rfl) Tryz.ntmps118 rfl
def zkg : Ann := { own := [], live := [(0, ([1, 2, 15, 16, 17], []))], n := 32, nils := [], pubs := [] }
def z0d (a0 : List (List Int)) (a1 : List (List Int)) (g2 : FuncId) (cap2 : List D) (R : D → Prop) (n0 : Nat) (v1 : Int) : Prop := LP zkg Tryz.f126 [1, 1, 0, 1, 0, 0] 0 n0 ⟨[(1, dS a1), (2, .clo g2 (some [.bool]) cap2), (15, dS a0), (16, dI (a0.length : Int)), (17, dI v1)], []⟩ (blockK 0 (sK zkg Tryz.f126 [1, 1, 1] 0 (eK Tryz.f126 R)))
theorem zlg (a0 : List (List Int)) (a1 : List (List Int)) (g2 : FuncId) (cap2 : List D) (R : D → Prop) (n0 : Nat) (v1 : Int) : z0d a0 a1 g2 cap2 R (n0 + 1) v1 =
 (sel (decide (v1 < (a0.length : Int)))
 (inb v1 a0.length = true ∧
 inb v1 a1.length = true ∧
 Ent Tryz.prog g2 ∧
 Call1 Tryz.prog g2 ([.sl .int (at' (.list .int) a0 v1.toNat), .sl .int (at' (.list .int) a1 v1.toNat)] ++ cap2) .bool fun r2 =>
 sel (!r2)
 (R (dB false))
 (z0d a0 a1 g2 cap2 R n0 (w64 (v1 + 1))))
 (R (dB true))) := by kernel_rfl
theorem zDl (a0 : List (List Int)) (a1 : List (List Int)) (g2 : FuncId) (cap2 : List D) (R : D → Prop) : FD zkg Tryz.f126 [dS a0, dS a1, .clo g2 (some [.bool]) cap2] R =
 (sel (!decide ((a0.length : Int) = (a1.length : Int)))
 (R (dB false))
 (∃ n0, z0d a0 a1 g2 cap2 R n0 0)) := by kernel_rfl
theorem zEl (a0 : List (List Int)) (a1 : List (List Int)) (g2 : FuncId) (cap2 : List D) : SatI zkg Tryz.f126 zuc [dS a0, dS a1, .clo g2 (some [.bool]) cap2] := satD Tryz.func126 (by kernel_rfl) Tryz.ntmps126 rfl
def zmg : Ann := { own := [], live := [(0, ([0, 1, 7, 8], []))], n := 19, nils := [], pubs := [] }
def z7i (a0 : List VarD) (g1 : FuncId) (cap1 : List D) (R : D → Prop) (n0 : Nat) (v1 : Int) : Prop := LP zmg Tryz.f130 [1, 0, 1, 0, 0] 0 n0 ⟨[(0, .sl .var a0), (1, .clo g1 (some [.bool]) cap1), (7, dI (a0.length : Int)), (8, dI v1)], []⟩ (blockK 0 (sK zmg Tryz.f130 [1, 1] 0 (eK Tryz.f130 R)))
theorem zFl (a0 : List VarD) (g1 : FuncId) (cap1 : List D) (R : D → Prop) (n0 : Nat) (v1 : Int) : z7i a0 g1 cap1 R (n0 + 1) v1 =
 (sel (decide (v1 < (a0.length : Int)))
 (inb v1 a0.length = true ∧
 Ent Tryz.prog g1 ∧
 Call1 Tryz.prog g1 ([dV (at' .var a0 v1.toNat)] ++ cap1) .bool fun r2 =>
 sel r2
 (R (dI v1))
 (z7i a0 g1 cap1 R n0 (w64 (v1 + 1))))
 (R (dI (-1)))) := by kernel_rfl
theorem zFs (a0 : List VarD) (g1 : FuncId) (cap1 : List D) (R : D → Prop) : FD zmg Tryz.f130 [.sl .var a0, .clo g1 (some [.bool]) cap1] R =
 (∃ n0, z7i a0 g1 cap1 R n0 0) := by kernel_rfl
theorem zGs (a0 : List VarD) (g1 : FuncId) (cap1 : List D) : SatI zmg Tryz.f130 zHf [.sl .var a0, .clo g1 (some [.bool]) cap1] := satD Tryz.func130 (by kernel_rfl) Tryz.ntmps130 rfl
def zng : Ann := { own := [], live := [(0, ([0, 1, 7, 8], []))], n := 19, nils := [], pubs := [] }
def z8i (a0 : List LitD) (g1 : FuncId) (cap1 : List D) (R : D → Prop) (n0 : Nat) (v1 : Int) : Prop := LP zng Tryz.f134 [1, 0, 1, 0, 0] 0 n0 ⟨[(0, .sl .lit a0), (1, .clo g1 (some [.bool]) cap1), (7, dI (a0.length : Int)), (8, dI v1)], []⟩ (blockK 0 (sK zng Tryz.f134 [1, 1] 0 (eK Tryz.f134 R)))
theorem zGl (a0 : List LitD) (g1 : FuncId) (cap1 : List D) (R : D → Prop) (n0 : Nat) (v1 : Int) : z8i a0 g1 cap1 R (n0 + 1) v1 =
 (sel (decide (v1 < (a0.length : Int)))
 (inb v1 a0.length = true ∧
 Ent Tryz.prog g1 ∧
 Call1 Tryz.prog g1 ([dL (at' .lit a0 v1.toNat)] ++ cap1) .bool fun r2 =>
 sel r2
 (R (dI v1))
 (z8i a0 g1 cap1 R n0 (w64 (v1 + 1))))
 (R (dI (-1)))) := by kernel_rfl
theorem zHs (a0 : List LitD) (g1 : FuncId) (cap1 : List D) (R : D → Prop) : FD zng Tryz.f134 [.sl .lit a0, .clo g1 (some [.bool]) cap1] R =
 (∃ n0, z8i a0 g1 cap1 R n0 0) := by kernel_rfl
theorem zIs (a0 : List LitD) (g1 : FuncId) (cap1 : List D) : SatI zng Tryz.f134 zJf [.sl .lit a0, .clo g1 (some [.bool]) cap1] := satD Tryz.func134 (by kernel_rfl) Tryz.ntmps134 rfl
def zog : Ann := { own := [], live := [(0, ([0, 1, 7, 8], []))], n := 19, nils := [], pubs := [] }
def z9i (a0 : List (List Int)) (g1 : FuncId) (cap1 : List D) (R : D → Prop) (n0 : Nat) (v1 : Int) : Prop := LP zog Tryz.f135 [1, 0, 1, 0, 0] 0 n0 ⟨[(0, dS a0), (1, .clo g1 (some [.bool]) cap1), (7, dI (a0.length : Int)), (8, dI v1)], []⟩ (blockK 0 (sK zog Tryz.f135 [1, 1] 0 (eK Tryz.f135 R)))
theorem zHl (a0 : List (List Int)) (g1 : FuncId) (cap1 : List D) (R : D → Prop) (n0 : Nat) (v1 : Int) : z9i a0 g1 cap1 R (n0 + 1) v1 =
 (sel (decide (v1 < (a0.length : Int)))
 (inb v1 a0.length = true ∧
 Ent Tryz.prog g1 ∧
 Call1 Tryz.prog g1 ([.sl .int (at' (.list .int) a0 v1.toNat)] ++ cap1) .bool fun r2 =>
 sel r2
 (R (dI v1))
 (z9i a0 g1 cap1 R n0 (w64 (v1 + 1))))
 (R (dI (-1)))) := by kernel_rfl
theorem zJs (a0 : List (List Int)) (g1 : FuncId) (cap1 : List D) (R : D → Prop) : FD zog Tryz.f135 [dS a0, .clo g1 (some [.bool]) cap1] R =
 (∃ n0, z9i a0 g1 cap1 R n0 0) := by kernel_rfl
theorem zKs (a0 : List (List Int)) (g1 : FuncId) (cap1 : List D) : SatI zog Tryz.f135 zKf [dS a0, .clo g1 (some [.bool]) cap1] := satD Tryz.func135 (by kernel_rfl) Tryz.ntmps135 rfl
def zIl : Ann := { own := [], live := [], n := 9, nils := [], pubs := [] }
theorem zLs (a0 : List Int) (a1 : Int) (R : D → Prop) : FD zIl Tryz.f141 [.sl .int a0, dI a1] R =
 (Call1 Tryz.prog z2f [.sl .int a0, dI a1] .int fun s1 =>
 R (dB (decide (0 ≤ s1)))) := by kernel_rfl
theorem zMs (a0 : List Int) (a1 : Int) : SatI zIl Tryz.f141 z2b [.sl .int a0, dI a1] := satD Tryz.func141 (by kernel_rfl) Tryz.ntmps141 rfl
def zJl : Ann := { own := [], live := [], n := 9, nils := [], pubs := [] }
theorem zNs (a0 : List LitD) (g1 : FuncId) (cap1 : List D) (R : D → Prop) : FD zJl Tryz.f144 [.sl .lit a0, .clo g1 (some [.bool]) cap1] R =
 (Call1 Tryz.prog z3f [.sl .lit a0, .clo g1 (some [.bool]) cap1] .int fun s1 =>
 R (dB (decide (0 ≤ s1)))) := by kernel_rfl
theorem zOs (a0 : List LitD) (g1 : FuncId) (cap1 : List D) : SatI zJl Tryz.f144 zTd [.sl .lit a0, .clo g1 (some [.bool]) cap1] := satD Tryz.func144 (by kernel_rfl) Tryz.ntmps144 rfl
def zpg : Ann := { own := [], live := [(0, ([0, 1, 7, 8], []))], n := 19, nils := [], pubs := [] }
def zaj (a0 : List (List Int)) (g1 : FuncId) (cap1 : List D) (R : D → Prop) (n0 : Nat) (v1 : Int) : Prop := LP zpg Tryz.f148 [1, 0, 1, 0, 0] 0 n0 ⟨[(0, dS a0), (1, .clo g1 (some [.bool]) cap1), (7, dI (a0.length : Int)), (8, dI v1)], []⟩ (blockK 0 (sK zpg Tryz.f148 [1, 1] 0 (eK Tryz.f148 R)))
theorem zKl (a0 : List (List Int)) (g1 : FuncId) (cap1 : List D) (R : D → Prop) (n0 : Nat) (v1 : Int) : zaj a0 g1 cap1 R (n0 + 1) v1 =
 (sel (decide (v1 < (a0.length : Int)))
 (inb v1 a0.length = true ∧
 Ent Tryz.prog g1 ∧
 Call1 Tryz.prog g1 ([.sl .int (at' (.list .int) a0 v1.toNat)] ++ cap1) .bool fun r2 =>
 sel r2
 (R (dI v1))
 (zaj a0 g1 cap1 R n0 (w64 (v1 + 1))))
 (R (dI (-1)))) := by kernel_rfl
theorem zPs (a0 : List (List Int)) (g1 : FuncId) (cap1 : List D) (R : D → Prop) : FD zpg Tryz.f148 [dS a0, .clo g1 (some [.bool]) cap1] R =
 (∃ n0, zaj a0 g1 cap1 R n0 0) := by kernel_rfl
theorem zQs (a0 : List (List Int)) (g1 : FuncId) (cap1 : List D) : SatI zpg Tryz.f148 zRf [dS a0, .clo g1 (some [.bool]) cap1] := satD Tryz.func148 (by kernel_rfl) Tryz.ntmps148 rfl
def zqg : Ann := { own := [], live := [(0, ([0, 1, 7, 8], []))], n := 19, nils := [], pubs := [] }
def zbj (a0 : List TermD) (g1 : FuncId) (cap1 : List D) (R : D → Prop) (n0 : Nat) (v1 : Int) : Prop := LP zqg Tryz.f171 [1, 0, 1, 0, 0] 0 n0 ⟨[(0, .sl .term a0), (1, .clo g1 (some [.bool]) cap1), (7, dI (a0.length : Int)), (8, dI v1)], []⟩ (blockK 0 (sK zqg Tryz.f171 [1, 1] 0 (eK Tryz.f171 R)))
theorem zLl (a0 : List TermD) (g1 : FuncId) (cap1 : List D) (R : D → Prop) (n0 : Nat) (v1 : Int) : zbj a0 g1 cap1 R (n0 + 1) v1 =
 (sel (decide (v1 < (a0.length : Int)))
 (inb v1 a0.length = true ∧
 Ent Tryz.prog g1 ∧
 Call1 Tryz.prog g1 ([.agg [dI ((at' .term a0 v1.toNat).v), dI ((at' .term a0 v1.toNat).times)]] ++ cap1) .bool fun r2 =>
 sel r2
 (R (dI v1))
 (zbj a0 g1 cap1 R n0 (w64 (v1 + 1))))
 (R (dI (-1)))) := by kernel_rfl
theorem zRs (a0 : List TermD) (g1 : FuncId) (cap1 : List D) (R : D → Prop) : FD zqg Tryz.f171 [.sl .term a0, .clo g1 (some [.bool]) cap1] R =
 (∃ n0, zbj a0 g1 cap1 R n0 0) := by kernel_rfl
theorem zSs (a0 : List TermD) (g1 : FuncId) (cap1 : List D) : SatI zqg Tryz.f171 zWd [.sl .term a0, .clo g1 (some [.bool]) cap1] := satD Tryz.func171 (by kernel_rfl) Tryz.ntmps171 rfl
def zMl : Ann := { own := [2, 5, 7], live := [], n := 8, nils := [], pubs := [] }
theorem zTs (s0 : List (List Int)) (R : D → List (Nat × HObj) → Prop) : FH zMl Tryz.f175 [dS s0] [] [] true R =
 (∀ b1 : Bool, (b1 = true → s0 = []) →
 sel b1
 (R (.own 3000) [(3000, .row 26 (.list .int) ([] : List (List Int)))])
 (room (.list .int) (([] : List (List Int)).length + s0.length) = true ∧
 R (.own 3000) [(3000, .row 26 (.list .int) (([] : List (List Int)) ++ s0))])) := by kernel_rfl
theorem zUs (s0 : List (List Int)) : SatHI zMl Tryz.f175 z1f [dS s0] [] [] true := satHD Tryz.func175 (by kernel_rfl) Tryz.ntmps175 rfl
def zrg : Ann := { own := [], live := [(0, ([0, 1, 7, 8], []))], n := 19, nils := [], pubs := [] }
def zcj (a0 : List Int) (a1 : Int) (R : D → Prop) (n0 : Nat) (v1 : Int) : Prop := LP zrg Tryz.f177 [1, 0, 1, 0, 0] 0 n0 ⟨[(0, .sl .int a0), (1, dI a1), (7, dI (a0.length : Int)), (8, dI v1)], []⟩ (blockK 0 (sK zrg Tryz.f177 [1, 1] 0 (eK Tryz.f177 R)))
theorem zNl (a0 : List Int) (a1 : Int) (R : D → Prop) (n0 : Nat) (v1 : Int) : zcj a0 a1 R (n0 + 1) v1 =
 (sel (decide (v1 < (a0.length : Int)))
 (inb v1 a0.length = true ∧
 sel (decide (a1 = (at' .int a0 v1.toNat)))
 (R (dI v1))
 (zcj a0 a1 R n0 (w64 (v1 + 1))))
 (R (dI (-1)))) := by kernel_rfl
theorem zVs (a0 : List Int) (a1 : Int) (R : D → Prop) : FD zrg Tryz.f177 [.sl .int a0, dI a1] R =
 (∃ n0, zcj a0 a1 R n0 0) := by kernel_rfl
theorem zWs (a0 : List Int) (a1 : Int) : SatI zrg Tryz.f177 z2f [.sl .int a0, dI a1] := satD Tryz.func177 (by kernel_rfl) Tryz.ntmps177 rfl
def zsg : Ann := { own := [], live := [(0, ([0, 1, 7, 8], []))], n := 19, nils := [], pubs := [] }
def zdj (a0 : List LitD) (g1 : FuncId) (cap1 : List D) (R : D → Prop) (n0 : Nat) (v1 : Int) : Prop := LP zsg Tryz.f178 [1, 0, 1, 0, 0] 0 n0 ⟨[(0, .sl .lit a0), (1, .clo g1 (some [.bool]) cap1), (7, dI (a0.length : Int)), (8, dI v1)], []⟩ (blockK 0 (sK zsg Tryz.f178 [1, 1] 0 (eK Tryz.f178 R)))
theorem zOl (a0 : List LitD) (g1 : FuncId) (cap1 : List D) (R : D → Prop) (n0 : Nat) (v1 : Int) : zdj a0 g1 cap1 R (n0 + 1) v1 =
 (sel (decide (v1 < (a0.length : Int)))
 (inb v1 a0.length = true ∧
 Ent Tryz.prog g1 ∧
 Call1 Tryz.prog g1 ([dL (at' .lit a0 v1.toNat)] ++ cap1) .bool fun r2 =>
 sel r2
 (R (dI v1))
 (zdj a0 g1 cap1 R n0 (w64 (v1 + 1))))
 (R (dI (-1)))) := by kernel_rfl
theorem zXs (a0 : List LitD) (g1 : FuncId) (cap1 : List D) (R : D → Prop) : FD zsg Tryz.f178 [.sl .lit a0, .clo g1 (some [.bool]) cap1] R =
 (∃ n0, zdj a0 g1 cap1 R n0 0) := by kernel_rfl
theorem zYs (a0 : List LitD) (g1 : FuncId) (cap1 : List D) : SatI zsg Tryz.f178 z3f [.sl .lit a0, .clo g1 (some [.bool]) cap1] := satD Tryz.func178 (by kernel_rfl) Tryz.ntmps178 rfl
def z5c : Ann := { own := [33], live := [(0, ([0, 3, 9, 10, 11], [])), (2, ([6, 25, 26, 27], [31536]))], n := 36, nils := [], pubs := [] }
def ztg (a0 : List (List LitD)) (R : D → Prop) (n2 : Nat) (v4 : Int) (l5 : List LitD) : Prop := LP z5c Tryz.f206 [1, 1, 1, 1, 0, 1, 0, 0] 2 n2 ⟨[(6, .own 31536), (25, .sl (.list .lit) a0), (26, dI (a0.length : Int)), (27, dI v4)], [(31536, .row 86 .lit l5)]⟩ (blockK 2 (sK z5c Tryz.f206 [1, 1, 1, 1, 1] 0 (eK Tryz.f206 R)))
def zug (a0 : List (List LitD)) (R : D → Prop) (n0 : Nat) (size1 : Int) (v2 : Int) : Prop := LP z5c Tryz.f206 [1, 1, 0, 1, 0, 0] 0 n0 ⟨[(0, .sl (.list .lit) a0), (3, dI size1), (9, .sl (.list .lit) a0), (10, dI (a0.length : Int)), (11, dI v2)], []⟩ (blockK 0 (sK z5c Tryz.f206 [1, 1, 1] 0 (eK Tryz.f206 R)))
theorem zZs (a0 : List (List LitD)) (R : D → Prop) (n2 : Nat) (v4 : Int) (l5 : List LitD) : ztg a0 R (n2 + 1) v4 l5 =
 (sel (decide (v4 < (a0.length : Int)))
 (inb v4 a0.length = true ∧
 room .lit (l5.length + (at' (.list .lit) a0 v4.toNat).length) = true ∧
 ztg a0 R n2 (w64 (v4 + 1)) (l5 ++ (at' (.list .lit) a0 v4.toNat)))
 (R (.sl .lit l5))) := by kernel_rfl
theorem z0s (a0 : List (List LitD)) (R : D → Prop) (n0 : Nat) (size1 : Int) (v2 : Int) : zug a0 R (n0 + 1) size1 v2 =
 (sel (decide (v2 < (a0.length : Int)))
 (inb v2 a0.length = true ∧
 sel (decide ((w64 (size1 + ((at' (.list .lit) a0 v2.toNat).length : Int))) < 0))
 (False)
 (zug a0 R n0 (w64 (size1 + ((at' (.list .lit) a0 v2.toNat).length : Int))) (w64 (v2 + 1))))
 (∃ l3 : List LitD, SatH Tryz.prog z5i [.nil, dI size1] [] (.own 3000) [(3000, .row 86 .lit l3)] ∧
 ∃ n2, ztg a0 R n2 0 l3)) := by kernel_rfl
theorem z1s (a0 : List (List LitD)) (R : D → Prop) : FD z5c Tryz.f206 [.sl (.list .lit) a0] R =
 (∃ n0, zug a0 R n0 0 0) := by kernel_rfl
theorem z2s (a0 : List (List LitD)) : SatI z5c Tryz.f206 z3c [.sl (.list .lit) a0] := satD Tryz.func206 (by kernel_rfl) Tryz.ntmps206 rfl
end Go.Proofs.YtajnbkhgnppckaaGreatDoor
