/- What the functions of a package do, as equations of plain propositions: printed by a program that carries the code out on symbols. -/
import Derived.Test.YtajnbkhgnppckaaGreatDoorWEv
namespace Go.Proofs.YtajnbkhgnppckaaGreatDoor
open Go.RowKit
set_option linter.unusedVariables false
set_option maxRecDepth 100000
def zEl : Ann := { own := [], live := [], n := 9, nils := [], pubs := [] }
theorem zys (a0 : List Int) (g1 : FuncId) (cap1 : List D) (R : D → Prop) : FD zEl Tryz.f74 [.sl .int a0, .clo g1 (some [.bool]) cap1] R =
 (Call1 Tryz.prog zSf [.sl .int a0, .clo g1 (some [.bool]) cap1] .int fun s1 =>
 R (dB (decide (0 ≤ s1)))) := by kernel_rfl
theorem zzs (a0 : List Int) (g1 : FuncId) (cap1 : List D) : SatI zEl Tryz.f74 z0b [.sl .int a0, .clo g1 (some [.bool]) cap1] := satD Tryz.func74 (by kernel_rfl) Tryz.ntmps74 rfl
def zFl : Ann := { own := [], live := [], n := 9, nils := [], pubs := [] }
theorem zAs (a0 : List ConD) (g1 : FuncId) (cap1 : List D) (R : D → Prop) : FD zFl Tryz.f78 [.sl .con a0, .clo g1 (some [.bool]) cap1] R =
 (Call1 Tryz.prog zUf [.sl .con a0, .clo g1 (some [.bool]) cap1] .int fun s1 =>
 R (dB (decide (0 ≤ s1)))) := by kernel_rfl
theorem zCs (a0 : List ConD) (g1 : FuncId) (cap1 : List D) : SatI zFl Tryz.f78 zCf [.sl .con a0, .clo g1 (some [.bool]) cap1] := satD Tryz.func78 (by kernel_rfl) Tryz.ntmps78 rfl
def zGl : Ann := { own := [2, 5, 7], live := [], n := 8, nils := [], pubs := [] }
theorem zDs (s0 : List LitD) (R : D → List (Nat × HObj) → Prop) : FH zGl Tryz.f82 [.sl .lit s0] [] [] true R =
 (∀ b1 : Bool, (b1 = true → s0 = []) →
 sel b1
 (R (.own 3000) [(3000, .row 86 .lit ([] : List LitD))])
 (room .lit (([] : List LitD).length + s0.length) = true ∧
 R (.own 3000) [(3000, .row 86 .lit (([] : List LitD) ++ s0))])) := by kernel_rfl
theorem zEs (s0 : List LitD) : SatHI zGl Tryz.f82 zFf [.sl .lit s0] [] [] true := satHD Tryz.func82 (by kernel_rfl) Tryz.ntmps82 rfl
def z8c : Ann := { own := [33], live := [(0, ([0, 3, 9, 10, 11], [])), (2, ([6, 25, 26, 27], [31536]))], n := 36, nils := [], pubs := [] }
def zvg (a0 : List (List LitD)) (R : D → Prop) (n2 : Nat) (v4 : Int) (l5 : List LitD) : Prop := LP z8c Tryz.f83 [1, 1, 1, 1, 0, 1, 0, 0] 2 n2 ⟨[(6, .own 31536), (25, .sl (.list .lit) a0), (26, dI (a0.length : Int)), (27, dI v4)], [(31536, .row 86 .lit l5)]⟩ (blockK 2 (sK z8c Tryz.f83 [1, 1, 1, 1, 1] 0 (eK Tryz.f83 R)))
def zwg (a0 : List (List LitD)) (R : D → Prop) (n0 : Nat) (size1 : Int) (v2 : Int) : Prop := LP z8c Tryz.f83 [1, 1, 0, 1, 0, 0] 0 n0 ⟨[(0, .sl (.list .lit) a0), (3, dI size1), (9, .sl (.list .lit) a0), (10, dI (a0.length : Int)), (11, dI v2)], []⟩ (blockK 0 (sK z8c Tryz.f83 [1, 1, 1] 0 (eK Tryz.f83 R)))
theorem zFs (a0 : List (List LitD)) (R : D → Prop) (n2 : Nat) (v4 : Int) (l5 : List LitD) : zvg a0 R (n2 + 1) v4 l5 =
 (sel (decide (v4 < (a0.length : Int)))
 (inb v4 a0.length = true ∧
 room .lit (l5.length + (at' (.list .lit) a0 v4.toNat).length) = true ∧
 zvg a0 R n2 (w64 (v4 + 1)) (l5 ++ (at' (.list .lit) a0 v4.toNat)))
 (R (.sl .lit l5))) := by kernel_rfl
theorem zGs (a0 : List (List LitD)) (R : D → Prop) (n0 : Nat) (size1 : Int) (v2 : Int) : zwg a0 R (n0 + 1) size1 v2 =
 (sel (decide (v2 < (a0.length : Int)))
 (inb v2 a0.length = true ∧
 sel (decide ((w64 (size1 + ((at' (.list .lit) a0 v2.toNat).length : Int))) < 0))
 (False)
 (zwg a0 R n0 (w64 (size1 + ((at' (.list .lit) a0 v2.toNat).length : Int))) (w64 (v2 + 1))))
 (∃ l3 : List LitD, SatH Tryz.prog zij [.nil, dI size1] [] (.own 3000) [(3000, .row 86 .lit l3)] ∧
 ∃ n2, zvg a0 R n2 0 l3)) := by kernel_rfl
theorem zHs (a0 : List (List LitD)) (R : D → Prop) : FD z8c Tryz.f83 [.sl (.list .lit) a0] R =
 (∃ n0, zwg a0 R n0 0 0) := by kernel_rfl
theorem zIs (a0 : List (List LitD)) : SatI z8c Tryz.f83 zGf [.sl (.list .lit) a0] := satD Tryz.func83 (by kernel_rfl) Tryz.ntmps83 rfl
def zHl : Ann := { own := [], live := [], n := 9, nils := [], pubs := [] }
theorem zJs (a0 : List VarD) (g1 : FuncId) (cap1 : List D) (R : D → Prop) : FD zHl Tryz.f89 [.sl .var a0, .clo g1 (some [.bool]) cap1] R =
 (Call1 Tryz.prog zXf [.sl .var a0, .clo g1 (some [.bool]) cap1] .int fun s1 =>
 R (dB (decide (0 ≤ s1)))) := by kernel_rfl
theorem zKs (a0 : List VarD) (g1 : FuncId) (cap1 : List D) : SatI zHl Tryz.f89 zKf [.sl .var a0, .clo g1 (some [.bool]) cap1] := satD Tryz.func89 (by kernel_rfl) Tryz.ntmps89 rfl
def zIl : Ann := { own := [], live := [], n := 9, nils := [], pubs := [] }
theorem zLs (a0 : List LitD) (g1 : FuncId) (cap1 : List D) (R : D → Prop) : FD zIl Tryz.f94 [.sl .lit a0, .clo g1 (some [.bool]) cap1] R =
 (Call1 Tryz.prog zZf [.sl .lit a0, .clo g1 (some [.bool]) cap1] .int fun s1 =>
 R (dB (decide (0 ≤ s1)))) := by kernel_rfl
theorem zMs (a0 : List LitD) (g1 : FuncId) (cap1 : List D) : SatI zIl Tryz.f94 z0c [.sl .lit a0, .clo g1 (some [.bool]) cap1] := satD Tryz.func94 (by kernel_rfl) Tryz.ntmps94 rfl
def zJl : Ann := { own := [], live := [], n := 9, nils := [], pubs := [] }
theorem zNs (a0 : List (List Int)) (g1 : FuncId) (cap1 : List D) (R : D → Prop) : FD zJl Tryz.f96 [dS a0, .clo g1 (some [.bool]) cap1] R =
 (Call1 Tryz.prog z0f [dS a0, .clo g1 (some [.bool]) cap1] .int fun s1 =>
 R (dB (decide (0 ≤ s1)))) := by kernel_rfl
theorem zOs (a0 : List (List Int)) (g1 : FuncId) (cap1 : List D) : SatI zJl Tryz.f96 znb [dS a0, .clo g1 (some [.bool]) cap1] := satD Tryz.func96 (by kernel_rfl) Tryz.ntmps96 rfl
def zKl : Ann := { own := [], live := [], n := 9, nils := [], pubs := [] }
theorem zPs (a0 : List (List Int)) (g1 : FuncId) (cap1 : List D) (R : D → Prop) : FD zKl Tryz.f103 [dS a0, .clo g1 (some [.bool]) cap1] R =
 (Call1 Tryz.prog z7f [dS a0, .clo g1 (some [.bool]) cap1] .int fun s1 =>
 R (dB (decide (0 ≤ s1)))) := by kernel_rfl
theorem zQs (a0 : List (List Int)) (g1 : FuncId) (cap1 : List D) : SatI zKl Tryz.f103 zPf [dS a0, .clo g1 (some [.bool]) cap1] := satD Tryz.func103 (by kernel_rfl) Tryz.ntmps103 rfl
def zxg : Ann := { own := [], live := [(0, ([0, 1, 7, 8], []))], n := 19, nils := [], pubs := [] }
def zkj (a0 : List Int) (g1 : FuncId) (cap1 : List D) (R : D → Prop) (n0 : Nat) (v1 : Int) : Prop := LP zxg Tryz.f111 [1, 0, 1, 0, 0] 0 n0 ⟨[(0, .sl .int a0), (1, .clo g1 (some [.bool]) cap1), (7, dI (a0.length : Int)), (8, dI v1)], []⟩ (blockK 0 (sK zxg Tryz.f111 [1, 1] 0 (eK Tryz.f111 R)))
theorem zLl (a0 : List Int) (g1 : FuncId) (cap1 : List D) (R : D → Prop) (n0 : Nat) (v1 : Int) : zkj a0 g1 cap1 R (n0 + 1) v1 =
 (sel (decide (v1 < (a0.length : Int)))
 (inb v1 a0.length = true ∧
 Ent Tryz.prog g1 ∧
 Call1 Tryz.prog g1 ([dI (at' .int a0 v1.toNat)] ++ cap1) .bool fun r2 =>
 sel r2
 (R (dI v1))
 (zkj a0 g1 cap1 R n0 (w64 (v1 + 1))))
 (R (dI (-1)))) := by kernel_rfl
theorem zRs (a0 : List Int) (g1 : FuncId) (cap1 : List D) (R : D → Prop) : FD zxg Tryz.f111 [.sl .int a0, .clo g1 (some [.bool]) cap1] R =
 (∃ n0, zkj a0 g1 cap1 R n0 0) := by kernel_rfl
theorem zSs (a0 : List Int) (g1 : FuncId) (cap1 : List D) : SatI zxg Tryz.f111 zSf [.sl .int a0, .clo g1 (some [.bool]) cap1] := satD Tryz.func111 (by kernel_rfl) Tryz.ntmps111 rfl
def zyg : Ann := { own := [], live := [(0, ([0, 1, 12, 13], []))], n := 26, nils := [], pubs := [] }
def zzg (a0 : List Int) (a1 : List Int) (R : D → Prop) (n0 : Nat) (v1 : Int) : Prop := LP zyg Tryz.f117 [1, 1, 0, 1, 0, 0] 0 n0 ⟨[(0, .sl .int a0), (1, .sl .int a1), (12, dI (a0.length : Int)), (13, dI v1)], []⟩ (blockK 0 (sK zyg Tryz.f117 [1, 1, 1] 0 (eK Tryz.f117 R)))
theorem zMl (a0 : List Int) (a1 : List Int) (R : D → Prop) (n0 : Nat) (v1 : Int) : zzg a0 a1 R (n0 + 1) v1 =
 (sel (decide (v1 < (a0.length : Int)))
 (inb v1 a0.length = true ∧
 inb v1 a1.length = true ∧
 sel (!decide ((at' .int a0 v1.toNat) = (at' .int a1 v1.toNat)))
 (R (dB false))
 (zzg a0 a1 R n0 (w64 (v1 + 1))))
 (R (dB true))) := by kernel_rfl
theorem zTs (a0 : List Int) (a1 : List Int) (R : D → Prop) : FD zyg Tryz.f117 [.sl .int a0, .sl .int a1] R =
 (sel (!decide ((a0.length : Int) = (a1.length : Int)))
 (R (dB false))
 (∃ n0, zzg a0 a1 R n0 0)) := by kernel_rfl
theorem zUs (a0 : List Int) (a1 : List Int) : SatI zyg Tryz.f117 zhb [.sl .int a0, .sl .int a1] := satD Tryz.func117 (by kernel_rfl) Tryz.ntmps117 rfl
def zNl : Ann := { own := [2, 5, 7], live := [], n := 8, nils := [], pubs := [] }
theorem zVs (s0 : List Int) (R : D → List (Nat × HObj) → Prop) : FH zNl Tryz.f118 [.sl .int s0] [] [] true R =
 (∀ b1 : Bool, (b1 = true → s0 = []) →
 sel b1
 (R (.own 3000) [(3000, .row 3 .int ([] : List Int))])
 (room .int (([] : List Int).length + s0.length) = true ∧
 R (.own 3000) [(3000, .row 3 .int (([] : List Int) ++ s0))])) := by kernel_rfl
theorem zWs (s0 : List Int) : SatHI zNl Tryz.f118 z1c [.sl .int s0] [] [] true := satHD Tryz.func118 (by kernel_rfl) Tryz.ntmps118 rfl
def zAg : Ann := { own := [], live := [(0, ([0, 1, 7, 8], []))], n := 19, nils := [], pubs := [] }
def zlj (a0 : List ConD) (g1 : FuncId) (cap1 : List D) (R : D → Prop) (n0 : Nat) (v1 : Int) : Prop := LP zAg Tryz.f121 [1, 0, 1, 0, 0] 0 n0 ⟨[(0, .sl .con a0), (1, .clo g1 (some [.bool]) cap1), (7, dI (a0.length : Int)), (8, dI v1)], []⟩ (blockK 0 (sK zAg Tryz.f121 [1, 1] 0 (eK Tryz.f121 R)))
theorem zOl (a0 : List ConD) (g1 : FuncId) (cap1 : List D) (R : D → Prop) (n0 : Nat) (v1 : Int) : zlj a0 g1 cap1 R (n0 + 1) v1 =
 (sel (decide (v1 < (a0.length : Int)))
 (inb v1 a0.length = true ∧
 Ent Tryz.prog g1 ∧
 Call1 Tryz.prog g1 ([dC (at' .con a0 v1.toNat)] ++ cap1) .bool fun r2 =>
 sel r2
 (R (dI v1))
 (zlj a0 g1 cap1 R n0 (w64 (v1 + 1))))
 (R (dI (-1)))) := by kernel_rfl
theorem zXs (a0 : List ConD) (g1 : FuncId) (cap1 : List D) (R : D → Prop) : FD zAg Tryz.f121 [.sl .con a0, .clo g1 (some [.bool]) cap1] R =
 (∃ n0, zlj a0 g1 cap1 R n0 0) := by kernel_rfl
theorem zYs (a0 : List ConD) (g1 : FuncId) (cap1 : List D) : SatI zAg Tryz.f121 zUf [.sl .con a0, .clo g1 (some [.bool]) cap1] := satD Tryz.func121 (by kernel_rfl) Tryz.ntmps121 rfl
def zBg : Ann := { own := [], live := [(0, ([1, 2, 15, 16, 17], []))], n := 32, nils := [], pubs := [] }
def zce (a0 : List (List Int)) (a1 : List (List Int)) (g2 : FuncId) (cap2 : List D) (R : D → Prop) (n0 : Nat) (v1 : Int) : Prop := LP zBg Tryz.f126 [1, 1, 0, 1, 0, 0] 0 n0 ⟨[(1, dS a1), (2, .clo g2 (some [.bool]) cap2), (15, dS a0), (16, dI (a0.length : Int)), (17, dI v1)], []⟩ (blockK 0 (sK zBg Tryz.f126 [1, 1, 1] 0 (eK Tryz.f126 R)))
theorem zCg (a0 : List (List Int)) (a1 : List (List Int)) (g2 : FuncId) (cap2 : List D) (R : D → Prop) (n0 : Nat) (v1 : Int) : zce a0 a1 g2 cap2 R (n0 + 1) v1 =
 (sel (decide (v1 < (a0.length : Int)))
 (inb v1 a0.length = true ∧
 inb v1 a1.length = true ∧
 Ent Tryz.prog g2 ∧
 Call1 Tryz.prog g2 ([.sl .int (at' (.list .int) a0 v1.toNat), .sl .int (at' (.list .int) a1 v1.toNat)] ++ cap2) .bool fun r2 =>
 sel (!r2)
 (R (dB false))
 (zce a0 a1 g2 cap2 R n0 (w64 (v1 + 1))))
 (R (dB true))) := by kernel_rfl
theorem zPl (a0 : List (List Int)) (a1 : List (List Int)) (g2 : FuncId) (cap2 : List D) (R : D → Prop) : FD zBg Tryz.f126 [dS a0, dS a1, .clo g2 (some [.bool]) cap2] R =
 (sel (!decide ((a0.length : Int) = (a1.length : Int)))
 (R (dB false))
 (∃ n0, zce a0 a1 g2 cap2 R n0 0)) := by kernel_rfl
theorem zQl (a0 : List (List Int)) (a1 : List (List Int)) (g2 : FuncId) (cap2 : List D) : SatI zBg Tryz.f126 zyc [dS a0, dS a1, .clo g2 (some [.bool]) cap2] := satD Tryz.func126 (by kernel_rfl) Tryz.ntmps126 rfl
def zDg : Ann := { own := [], live := [(0, ([0, 1, 7, 8], []))], n := 19, nils := [], pubs := [] }
def zmj (a0 : List VarD) (g1 : FuncId) (cap1 : List D) (R : D → Prop) (n0 : Nat) (v1 : Int) : Prop := LP zDg Tryz.f130 [1, 0, 1, 0, 0] 0 n0 ⟨[(0, .sl .var a0), (1, .clo g1 (some [.bool]) cap1), (7, dI (a0.length : Int)), (8, dI v1)], []⟩ (blockK 0 (sK zDg Tryz.f130 [1, 1] 0 (eK Tryz.f130 R)))
theorem zRl (a0 : List VarD) (g1 : FuncId) (cap1 : List D) (R : D → Prop) (n0 : Nat) (v1 : Int) : zmj a0 g1 cap1 R (n0 + 1) v1 =
 (sel (decide (v1 < (a0.length : Int)))
 (inb v1 a0.length = true ∧
 Ent Tryz.prog g1 ∧
 Call1 Tryz.prog g1 ([dV (at' .var a0 v1.toNat)] ++ cap1) .bool fun r2 =>
 sel r2
 (R (dI v1))
 (zmj a0 g1 cap1 R n0 (w64 (v1 + 1))))
 (R (dI (-1)))) := by kernel_rfl
theorem zZs (a0 : List VarD) (g1 : FuncId) (cap1 : List D) (R : D → Prop) : FD zDg Tryz.f130 [.sl .var a0, .clo g1 (some [.bool]) cap1] R =
 (∃ n0, zmj a0 g1 cap1 R n0 0) := by kernel_rfl
theorem z0s (a0 : List VarD) (g1 : FuncId) (cap1 : List D) : SatI zDg Tryz.f130 zXf [.sl .var a0, .clo g1 (some [.bool]) cap1] := satD Tryz.func130 (by kernel_rfl) Tryz.ntmps130 rfl
def zEg : Ann := { own := [], live := [(0, ([0, 1, 7, 8], []))], n := 19, nils := [], pubs := [] }
def znj (a0 : List LitD) (g1 : FuncId) (cap1 : List D) (R : D → Prop) (n0 : Nat) (v1 : Int) : Prop := LP zEg Tryz.f134 [1, 0, 1, 0, 0] 0 n0 ⟨[(0, .sl .lit a0), (1, .clo g1 (some [.bool]) cap1), (7, dI (a0.length : Int)), (8, dI v1)], []⟩ (blockK 0 (sK zEg Tryz.f134 [1, 1] 0 (eK Tryz.f134 R)))
theorem zSl (a0 : List LitD) (g1 : FuncId) (cap1 : List D) (R : D → Prop) (n0 : Nat) (v1 : Int) : znj a0 g1 cap1 R (n0 + 1) v1 =
 (sel (decide (v1 < (a0.length : Int)))
 (inb v1 a0.length = true ∧
 Ent Tryz.prog g1 ∧
 Call1 Tryz.prog g1 ([dL (at' .lit a0 v1.toNat)] ++ cap1) .bool fun r2 =>
 sel r2
 (R (dI v1))
 (znj a0 g1 cap1 R n0 (w64 (v1 + 1))))
 (R (dI (-1)))) := by kernel_rfl
theorem z1s (a0 : List LitD) (g1 : FuncId) (cap1 : List D) (R : D → Prop) : FD zEg Tryz.f134 [.sl .lit a0, .clo g1 (some [.bool]) cap1] R =
 (∃ n0, znj a0 g1 cap1 R n0 0) := by kernel_rfl
theorem z2s (a0 : List LitD) (g1 : FuncId) (cap1 : List D) : SatI zEg Tryz.f134 zZf [.sl .lit a0, .clo g1 (some [.bool]) cap1] := satD Tryz.func134 (by kernel_rfl) Tryz.ntmps134 rfl
def zFg : Ann := { own := [], live := [(0, ([0, 1, 7, 8], []))], n := 19, nils := [], pubs := [] }
def zoj (a0 : List (List Int)) (g1 : FuncId) (cap1 : List D) (R : D → Prop) (n0 : Nat) (v1 : Int) : Prop := LP zFg Tryz.f135 [1, 0, 1, 0, 0] 0 n0 ⟨[(0, dS a0), (1, .clo g1 (some [.bool]) cap1), (7, dI (a0.length : Int)), (8, dI v1)], []⟩ (blockK 0 (sK zFg Tryz.f135 [1, 1] 0 (eK Tryz.f135 R)))
theorem zTl (a0 : List (List Int)) (g1 : FuncId) (cap1 : List D) (R : D → Prop) (n0 : Nat) (v1 : Int) : zoj a0 g1 cap1 R (n0 + 1) v1 =
 (sel (decide (v1 < (a0.length : Int)))
 (inb v1 a0.length = true ∧
 Ent Tryz.prog g1 ∧
 Call1 Tryz.prog g1 ([.sl .int (at' (.list .int) a0 v1.toNat)] ++ cap1) .bool fun r2 =>
 sel r2
 (R (dI v1))
 (zoj a0 g1 cap1 R n0 (w64 (v1 + 1))))
 (R (dI (-1)))) := by kernel_rfl
theorem z3s (a0 : List (List Int)) (g1 : FuncId) (cap1 : List D) (R : D → Prop) : FD zFg Tryz.f135 [dS a0, .clo g1 (some [.bool]) cap1] R =
 (∃ n0, zoj a0 g1 cap1 R n0 0) := by kernel_rfl
theorem z4s (a0 : List (List Int)) (g1 : FuncId) (cap1 : List D) : SatI zFg Tryz.f135 z0f [dS a0, .clo g1 (some [.bool]) cap1] := satD Tryz.func135 (by kernel_rfl) Tryz.ntmps135 rfl
def zUl : Ann := { own := [], live := [], n := 9, nils := [], pubs := [] }
theorem z5s (a0 : List Int) (a1 : Int) (R : D → Prop) : FD zUl Tryz.f141 [.sl .int a0, dI a1] R =
 (Call1 Tryz.prog zig [.sl .int a0, dI a1] .int fun s1 =>
 R (dB (decide (0 ≤ s1)))) := by kernel_rfl
theorem z6s (a0 : List Int) (a1 : Int) : SatI zUl Tryz.f141 z7b [.sl .int a0, dI a1] := satD Tryz.func141 (by kernel_rfl) Tryz.ntmps141 rfl
def zVl : Ann := { own := [], live := [], n := 9, nils := [], pubs := [] }
theorem z7s (a0 : List LitD) (g1 : FuncId) (cap1 : List D) (R : D → Prop) : FD zVl Tryz.f144 [.sl .lit a0, .clo g1 (some [.bool]) cap1] R =
 (Call1 Tryz.prog zjg [.sl .lit a0, .clo g1 (some [.bool]) cap1] .int fun s1 =>
 R (dB (decide (0 ≤ s1)))) := by kernel_rfl
theorem z8s (a0 : List LitD) (g1 : FuncId) (cap1 : List D) : SatI zVl Tryz.f144 z5d [.sl .lit a0, .clo g1 (some [.bool]) cap1] := satD Tryz.func144 (by kernel_rfl) Tryz.ntmps144 rfl
def zGg : Ann := { own := [], live := [(0, ([0, 1, 7, 8], []))], n := 19, nils := [], pubs := [] }
def zpj (a0 : List (List Int)) (g1 : FuncId) (cap1 : List D) (R : D → Prop) (n0 : Nat) (v1 : Int) : Prop := LP zGg Tryz.f148 [1, 0, 1, 0, 0] 0 n0 ⟨[(0, dS a0), (1, .clo g1 (some [.bool]) cap1), (7, dI (a0.length : Int)), (8, dI v1)], []⟩ (blockK 0 (sK zGg Tryz.f148 [1, 1] 0 (eK Tryz.f148 R)))
theorem zWl (a0 : List (List Int)) (g1 : FuncId) (cap1 : List D) (R : D → Prop) (n0 : Nat) (v1 : Int) : zpj a0 g1 cap1 R (n0 + 1) v1 =
 (sel (decide (v1 < (a0.length : Int)))
 (inb v1 a0.length = true ∧
 Ent Tryz.prog g1 ∧
 Call1 Tryz.prog g1 ([.sl .int (at' (.list .int) a0 v1.toNat)] ++ cap1) .bool fun r2 =>
 sel r2
 (R (dI v1))
 (zpj a0 g1 cap1 R n0 (w64 (v1 + 1))))
 (R (dI (-1)))) := by kernel_rfl
theorem z9s (a0 : List (List Int)) (g1 : FuncId) (cap1 : List D) (R : D → Prop) : FD zGg Tryz.f148 [dS a0, .clo g1 (some [.bool]) cap1] R =
 (∃ n0, zpj a0 g1 cap1 R n0 0) := by kernel_rfl
theorem zat (a0 : List (List Int)) (g1 : FuncId) (cap1 : List D) : SatI zGg Tryz.f148 z7f [dS a0, .clo g1 (some [.bool]) cap1] := satD Tryz.func148 (by kernel_rfl) Tryz.ntmps148 rfl
def zHg : Ann := { own := [], live := [(0, ([0, 1, 7, 8], []))], n := 19, nils := [], pubs := [] }
def zqj (a0 : List TermD) (g1 : FuncId) (cap1 : List D) (R : D → Prop) (n0 : Nat) (v1 : Int) : Prop := LP zHg Tryz.f171 [1, 0, 1, 0, 0] 0 n0 ⟨[(0, .sl .term a0), (1, .clo g1 (some [.bool]) cap1), (7, dI (a0.length : Int)), (8, dI v1)], []⟩ (blockK 0 (sK zHg Tryz.f171 [1, 1] 0 (eK Tryz.f171 R)))
theorem zXl (a0 : List TermD) (g1 : FuncId) (cap1 : List D) (R : D → Prop) (n0 : Nat) (v1 : Int) : zqj a0 g1 cap1 R (n0 + 1) v1 =
 (sel (decide (v1 < (a0.length : Int)))
 (inb v1 a0.length = true ∧
 Ent Tryz.prog g1 ∧
 Call1 Tryz.prog g1 ([.agg [dI ((at' .term a0 v1.toNat).v), dI ((at' .term a0 v1.toNat).times)]] ++ cap1) .bool fun r2 =>
 sel r2
 (R (dI v1))
 (zqj a0 g1 cap1 R n0 (w64 (v1 + 1))))
 (R (dI (-1)))) := by kernel_rfl
theorem zbt (a0 : List TermD) (g1 : FuncId) (cap1 : List D) (R : D → Prop) : FD zHg Tryz.f171 [.sl .term a0, .clo g1 (some [.bool]) cap1] R =
 (∃ n0, zqj a0 g1 cap1 R n0 0) := by kernel_rfl
theorem zct (a0 : List TermD) (g1 : FuncId) (cap1 : List D) : SatI zHg Tryz.f171 z8d [.sl .term a0, .clo g1 (some [.bool]) cap1] := satD Tryz.func171 (by kernel_rfl) Tryz.ntmps171 rfl
def zYl : Ann := { own := [2, 5, 7], live := [], n := 8, nils := [], pubs := [] }
theorem zdt (s0 : List (List Int)) (R : D → List (Nat × HObj) → Prop) : FH zYl Tryz.f175 [dS s0] [] [] true R =
 (∀ b1 : Bool, (b1 = true → s0 = []) →
 sel b1
 (R (.own 3000) [(3000, .row 26 (.list .int) ([] : List (List Int)))])
 (room (.list .int) (([] : List (List Int)).length + s0.length) = true ∧
 R (.own 3000) [(3000, .row 26 (.list .int) (([] : List (List Int)) ++ s0))])) := by kernel_rfl
theorem zet (s0 : List (List Int)) : SatHI zYl Tryz.f175 zhg [dS s0] [] [] true := satHD Tryz.func175 (by kernel_rfl) Tryz.ntmps175 rfl
def zIg : Ann := { own := [], live := [(0, ([0, 1, 7, 8], []))], n := 19, nils := [], pubs := [] }
def zrj (a0 : List Int) (a1 : Int) (R : D → Prop) (n0 : Nat) (v1 : Int) : Prop := LP zIg Tryz.f177 [1, 0, 1, 0, 0] 0 n0 ⟨[(0, .sl .int a0), (1, dI a1), (7, dI (a0.length : Int)), (8, dI v1)], []⟩ (blockK 0 (sK zIg Tryz.f177 [1, 1] 0 (eK Tryz.f177 R)))
theorem zZl (a0 : List Int) (a1 : Int) (R : D → Prop) (n0 : Nat) (v1 : Int) : zrj a0 a1 R (n0 + 1) v1 =
 (sel (decide (v1 < (a0.length : Int)))
 (inb v1 a0.length = true ∧
 sel (decide (a1 = (at' .int a0 v1.toNat)))
 (R (dI v1))
 (zrj a0 a1 R n0 (w64 (v1 + 1))))
 (R (dI (-1)))) := by kernel_rfl
theorem zft (a0 : List Int) (a1 : Int) (R : D → Prop) : FD zIg Tryz.f177 [.sl .int a0, dI a1] R =
 (∃ n0, zrj a0 a1 R n0 0) := by kernel_rfl
theorem zgt (a0 : List Int) (a1 : Int) : SatI zIg Tryz.f177 zig [.sl .int a0, dI a1] := satD Tryz.func177 (by kernel_rfl) Tryz.ntmps177 rfl
def zJg : Ann := { own := [], live := [(0, ([0, 1, 7, 8], []))], n := 19, nils := [], pubs := [] }
def zsj (a0 : List LitD) (g1 : FuncId) (cap1 : List D) (R : D → Prop) (n0 : Nat) (v1 : Int) : Prop := LP zJg Tryz.f178 [1, 0, 1, 0, 0] 0 n0 ⟨[(0, .sl .lit a0), (1, .clo g1 (some [.bool]) cap1), (7, dI (a0.length : Int)), (8, dI v1)], []⟩ (blockK 0 (sK zJg Tryz.f178 [1, 1] 0 (eK Tryz.f178 R)))
theorem z0l (a0 : List LitD) (g1 : FuncId) (cap1 : List D) (R : D → Prop) (n0 : Nat) (v1 : Int) : zsj a0 g1 cap1 R (n0 + 1) v1 =
 (sel (decide (v1 < (a0.length : Int)))
 (inb v1 a0.length = true ∧
 Ent Tryz.prog g1 ∧
 Call1 Tryz.prog g1 ([dL (at' .lit a0 v1.toNat)] ++ cap1) .bool fun r2 =>
 sel r2
 (R (dI v1))
 (zsj a0 g1 cap1 R n0 (w64 (v1 + 1))))
 (R (dI (-1)))) := by kernel_rfl
theorem zht (a0 : List LitD) (g1 : FuncId) (cap1 : List D) (R : D → Prop) : FD zJg Tryz.f178 [.sl .lit a0, .clo g1 (some [.bool]) cap1] R =
 (∃ n0, zsj a0 g1 cap1 R n0 0) := by kernel_rfl
theorem zit (a0 : List LitD) (g1 : FuncId) (cap1 : List D) : SatI zJg Tryz.f178 zjg [.sl .lit a0, .clo g1 (some [.bool]) cap1] := satD Tryz.func178 (by kernel_rfl) Tryz.ntmps178 rfl
def z9c : Ann := { own := [33], live := [(0, ([0, 3, 9, 10, 11], [])), (2, ([6, 25, 26, 27], [31536]))], n := 36, nils := [], pubs := [] }
def zKg (a0 : List (List LitD)) (R : D → Prop) (n2 : Nat) (v4 : Int) (l5 : List LitD) : Prop := LP z9c Tryz.f206 [1, 1, 1, 1, 0, 1, 0, 0] 2 n2 ⟨[(6, .own 31536), (25, .sl (.list .lit) a0), (26, dI (a0.length : Int)), (27, dI v4)], [(31536, .row 86 .lit l5)]⟩ (blockK 2 (sK z9c Tryz.f206 [1, 1, 1, 1, 1] 0 (eK Tryz.f206 R)))
def zLg (a0 : List (List LitD)) (R : D → Prop) (n0 : Nat) (size1 : Int) (v2 : Int) : Prop := LP z9c Tryz.f206 [1, 1, 0, 1, 0, 0] 0 n0 ⟨[(0, .sl (.list .lit) a0), (3, dI size1), (9, .sl (.list .lit) a0), (10, dI (a0.length : Int)), (11, dI v2)], []⟩ (blockK 0 (sK z9c Tryz.f206 [1, 1, 1] 0 (eK Tryz.f206 R)))
theorem zjt (a0 : List (List LitD)) (R : D → Prop) (n2 : Nat) (v4 : Int) (l5 : List LitD) : zKg a0 R (n2 + 1) v4 l5 =
 (sel (decide (v4 < (a0.length : Int)))
 (inb v4 a0.length = true ∧
 room .lit (l5.length + (at' (.list .lit) a0 v4.toNat).length) = true ∧
 zKg a0 R n2 (w64 (v4 + 1)) (l5 ++ (at' (.list .lit) a0 v4.toNat)))
 (R (.sl .lit l5))) := by kernel_rfl
theorem zkt (a0 : List (List LitD)) (R : D → Prop) (n0 : Nat) (size1 : Int) (v2 : Int) : zLg a0 R (n0 + 1) size1 v2 =
 (sel (decide (v2 < (a0.length : Int)))
 (inb v2 a0.length = true ∧
 sel (decide ((w64 (size1 + ((at' (.list .lit) a0 v2.toNat).length : Int))) < 0))
 (False)
 (zLg a0 R n0 (w64 (size1 + ((at' (.list .lit) a0 v2.toNat).length : Int))) (w64 (v2 + 1))))
 (∃ l3 : List LitD, SatH Tryz.prog zjj [.nil, dI size1] [] (.own 3000) [(3000, .row 86 .lit l3)] ∧
 ∃ n2, zKg a0 R n2 0 l3)) := by kernel_rfl
theorem zlt (a0 : List (List LitD)) (R : D → Prop) : FD z9c Tryz.f206 [.sl (.list .lit) a0] R =
 (∃ n0, zLg a0 R n0 0 0) := by kernel_rfl
theorem zmt (a0 : List (List LitD)) : SatI z9c Tryz.f206 z7c [.sl (.list .lit) a0] := satD Tryz.func206 (by kernel_rfl) Tryz.ntmps206 rfl
end Go.Proofs.YtajnbkhgnppckaaGreatDoor
