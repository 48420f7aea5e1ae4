/- What the functions of a package do, as equations of plain propositions: printed by a program that carries the code out on symbols. -/
import Derived.Test.YtajnbkhgnppckaaGreatDoorWEv
namespace Go.Proofs.YtajnbkhgnppckaaGreatDoor
open Go.RowKit
set_option linter.unusedVariables false
set_option maxRecDepth 100000
def zIj : Ann := { own := [], live := [], n := 9, nils := [], pubs := [] }
theorem zjq (a0 : List Int) (g1 : FuncId) (cap1 : List D) (R : D → Prop) : FD zIj Tryz.f74 [.sl .int a0, .clo g1 (some [.bool]) cap1] R =
 (Call1 Tryz.prog zAe [.sl .int a0, .clo g1 (some [.bool]) cap1] .int fun s1 =>
 R (dB (decide (0 ≤ s1)))) := by kernel_rfl
theorem zkq (a0 : List Int) (g1 : FuncId) (cap1 : List D) : SatI zIj Tryz.f74 zXb [.sl .int a0, .clo g1 (some [.bool]) cap1] := satD Tryz.func74 (by kernel_rfl) Tryz.ntmps74 rfl
def zJj : Ann := { own := [2, 5, 7], live := [], n := 8, nils := [], pubs := [] }
theorem zlq (s0 : List LitD) (R : D → List (Nat × HObj) → Prop) : FH zJj Tryz.f82 [.sl .lit s0] [] [] true R =
 (∀ b1 : Bool, (b1 = true → s0 = []) →
 sel b1
 (R (.own 3000) [(3000, .row 86 .lit ([] : List LitD))])
 (room .lit (([] : List LitD).length + s0.length) = true ∧
 R (.own 3000) [(3000, .row 86 .lit (([] : List LitD) ++ s0))])) := by kernel_rfl
theorem zmq (s0 : List LitD) : SatHI zJj Tryz.f82 zoe [.sl .lit s0] [] [] true := satHD Tryz.func82 (by kernel_rfl) Tryz.ntmps82 rfl
def zvc : Ann := { own := [33], live := [(0, ([0, 3, 9, 10, 11], [])), (2, ([6, 25, 26, 27], [31536]))], n := 36, nils := [], pubs := [] }
def z9e (a0 : List (List LitD)) (R : D → Prop) (n2 : Nat) (v4 : Int) (l5 : List LitD) : Prop := LP zvc Tryz.f83 [1, 1, 1, 1, 0, 1, 0, 0] 2 n2 ⟨[(6, .own 31536), (25, .sl (.list .lit) a0), (26, dI (a0.length : Int)), (27, dI v4)], [(31536, .row 86 .lit l5)]⟩ (blockK 2 (sK zvc Tryz.f83 [1, 1, 1, 1, 1] 0 (eK Tryz.f83 R)))
def zaf (a0 : List (List LitD)) (R : D → Prop) (n0 : Nat) (size1 : Int) (v2 : Int) : Prop := LP zvc Tryz.f83 [1, 1, 0, 1, 0, 0] 0 n0 ⟨[(0, .sl (.list .lit) a0), (3, dI size1), (9, .sl (.list .lit) a0), (10, dI (a0.length : Int)), (11, dI v2)], []⟩ (blockK 0 (sK zvc Tryz.f83 [1, 1, 1] 0 (eK Tryz.f83 R)))
theorem znq (a0 : List (List LitD)) (R : D → Prop) (n2 : Nat) (v4 : Int) (l5 : List LitD) : z9e a0 R (n2 + 1) v4 l5 =
 (sel (decide (v4 < (a0.length : Int)))
 (inb v4 a0.length = true ∧
 room .lit (l5.length + (at' (.list .lit) a0 v4.toNat).length) = true ∧
 z9e a0 R n2 (w64 (v4 + 1)) (l5 ++ (at' (.list .lit) a0 v4.toNat)))
 (R (.sl .lit l5))) := by kernel_rfl
theorem zoq (a0 : List (List LitD)) (R : D → Prop) (n0 : Nat) (size1 : Int) (v2 : Int) : zaf a0 R (n0 + 1) size1 v2 =
 (sel (decide (v2 < (a0.length : Int)))
 (inb v2 a0.length = true ∧
 sel (decide ((w64 (size1 + ((at' (.list .lit) a0 v2.toNat).length : Int))) < 0))
 (False)
 (zaf a0 R n0 (w64 (size1 + ((at' (.list .lit) a0 v2.toNat).length : Int))) (w64 (v2 + 1))))
 (∃ l3 : List LitD, SatH Tryz.prog zoh [.nil, dI size1] [] (.own 3000) [(3000, .row 86 .lit l3)] ∧
 ∃ n2, z9e a0 R n2 0 l3)) := by kernel_rfl
theorem zpq (a0 : List (List LitD)) (R : D → Prop) : FD zvc Tryz.f83 [.sl (.list .lit) a0] R =
 (∃ n0, zaf a0 R n0 0 0) := by kernel_rfl
theorem zqq (a0 : List (List LitD)) : SatI zvc Tryz.f83 zpe [.sl (.list .lit) a0] := satD Tryz.func83 (by kernel_rfl) Tryz.ntmps83 rfl
def zKj : Ann := { own := [], live := [], n := 9, nils := [], pubs := [] }
theorem zrq (a0 : List VarD) (g1 : FuncId) (cap1 : List D) (R : D → Prop) : FD zKj Tryz.f89 [.sl .var a0, .clo g1 (some [.bool]) cap1] R =
 (Call1 Tryz.prog zEe [.sl .var a0, .clo g1 (some [.bool]) cap1] .int fun s1 =>
 R (dB (decide (0 ≤ s1)))) := by kernel_rfl
theorem zsq (a0 : List VarD) (g1 : FuncId) (cap1 : List D) : SatI zKj Tryz.f89 zte [.sl .var a0, .clo g1 (some [.bool]) cap1] := satD Tryz.func89 (by kernel_rfl) Tryz.ntmps89 rfl
def zLj : Ann := { own := [], live := [], n := 9, nils := [], pubs := [] }
theorem ztq (a0 : List LitD) (g1 : FuncId) (cap1 : List D) (R : D → Prop) : FD zLj Tryz.f94 [.sl .lit a0, .clo g1 (some [.bool]) cap1] R =
 (Call1 Tryz.prog zGe [.sl .lit a0, .clo g1 (some [.bool]) cap1] .int fun s1 =>
 R (dB (decide (0 ≤ s1)))) := by kernel_rfl
theorem zuq (a0 : List LitD) (g1 : FuncId) (cap1 : List D) : SatI zLj Tryz.f94 znc [.sl .lit a0, .clo g1 (some [.bool]) cap1] := satD Tryz.func94 (by kernel_rfl) Tryz.ntmps94 rfl
def zMj : Ann := { own := [], live := [], n := 9, nils := [], pubs := [] }
theorem zvq (a0 : List (List Int)) (g1 : FuncId) (cap1 : List D) (R : D → Prop) : FD zMj Tryz.f96 [dS a0, .clo g1 (some [.bool]) cap1] R =
 (Call1 Tryz.prog zHe [dS a0, .clo g1 (some [.bool]) cap1] .int fun s1 =>
 R (dB (decide (0 ≤ s1)))) := by kernel_rfl
theorem zwq (a0 : List (List Int)) (g1 : FuncId) (cap1 : List D) : SatI zMj Tryz.f96 zY [dS a0, .clo g1 (some [.bool]) cap1] := satD Tryz.func96 (by kernel_rfl) Tryz.ntmps96 rfl
def zNj : Ann := { own := [], live := [], n := 9, nils := [], pubs := [] }
theorem zxq (a0 : List (List Int)) (g1 : FuncId) (cap1 : List D) (R : D → Prop) : FD zNj Tryz.f103 [dS a0, .clo g1 (some [.bool]) cap1] R =
 (Call1 Tryz.prog zOe [dS a0, .clo g1 (some [.bool]) cap1] .int fun s1 =>
 R (dB (decide (0 ≤ s1)))) := by kernel_rfl
theorem zyq (a0 : List (List Int)) (g1 : FuncId) (cap1 : List D) : SatI zNj Tryz.f103 zye [dS a0, .clo g1 (some [.bool]) cap1] := satD Tryz.func103 (by kernel_rfl) Tryz.ntmps103 rfl
def zbf : Ann := { own := [], live := [(0, ([0, 1, 7, 8], []))], n := 19, nils := [], pubs := [] }
def zqh (a0 : List Int) (g1 : FuncId) (cap1 : List D) (R : D → Prop) (n0 : Nat) (v1 : Int) : Prop := LP zbf Tryz.f111 [1, 0, 1, 0, 0] 0 n0 ⟨[(0, .sl .int a0), (1, .clo g1 (some [.bool]) cap1), (7, dI (a0.length : Int)), (8, dI v1)], []⟩ (blockK 0 (sK zbf Tryz.f111 [1, 1] 0 (eK Tryz.f111 R)))
theorem zOj (a0 : List Int) (g1 : FuncId) (cap1 : List D) (R : D → Prop) (n0 : Nat) (v1 : Int) : zqh a0 g1 cap1 R (n0 + 1) v1 =
 (sel (decide (v1 < (a0.length : Int)))
 (inb v1 a0.length = true ∧
 Ent Tryz.prog g1 ∧
 Call1 Tryz.prog g1 ([dI (at' .int a0 v1.toNat)] ++ cap1) .bool fun r2 =>
 sel r2
 (R (dI v1))
 (zqh a0 g1 cap1 R n0 (w64 (v1 + 1))))
 (R (dI (-1)))) := by kernel_rfl
theorem zzq (a0 : List Int) (g1 : FuncId) (cap1 : List D) (R : D → Prop) : FD zbf Tryz.f111 [.sl .int a0, .clo g1 (some [.bool]) cap1] R =
 (∃ n0, zqh a0 g1 cap1 R n0 0) := by kernel_rfl
theorem zAq (a0 : List Int) (g1 : FuncId) (cap1 : List D) : SatI zbf Tryz.f111 zAe [.sl .int a0, .clo g1 (some [.bool]) cap1] := satD Tryz.func111 (by kernel_rfl) Tryz.ntmps111 rfl
def zcf : Ann := { own := [], live := [(0, ([0, 1, 12, 13], []))], n := 26, nils := [], pubs := [] }
def zdf (a0 : List Int) (a1 : List Int) (R : D → Prop) (n0 : Nat) (v1 : Int) : Prop := LP zcf Tryz.f117 [1, 1, 0, 1, 0, 0] 0 n0 ⟨[(0, .sl .int a0), (1, .sl .int a1), (12, dI (a0.length : Int)), (13, dI v1)], []⟩ (blockK 0 (sK zcf Tryz.f117 [1, 1, 1] 0 (eK Tryz.f117 R)))
theorem zPj (a0 : List Int) (a1 : List Int) (R : D → Prop) (n0 : Nat) (v1 : Int) : zdf a0 a1 R (n0 + 1) v1 =
 (sel (decide (v1 < (a0.length : Int)))
 (inb v1 a0.length = true ∧
 inb v1 a1.length = true ∧
 sel (!decide ((at' .int a0 v1.toNat) = (at' .int a1 v1.toNat)))
 (R (dB false))
 (zdf a0 a1 R n0 (w64 (v1 + 1))))
 (R (dB true))) := by kernel_rfl
theorem zBq (a0 : List Int) (a1 : List Int) (R : D → Prop) : FD zcf Tryz.f117 [.sl .int a0, .sl .int a1] R =
 (sel (!decide ((a0.length : Int) = (a1.length : Int)))
 (R (dB false))
 (∃ n0, zdf a0 a1 R n0 0)) := by kernel_rfl
theorem zCq (a0 : List Int) (a1 : List Int) : SatI zcf Tryz.f117 zT [.sl .int a0, .sl .int a1] := satD Tryz.func117 (by kernel_rfl) Tryz.ntmps117 rfl
def zQj : Ann := { own := [2, 5, 7], live := [], n := 8, nils := [], pubs := [] }
theorem zDq (s0 : List Int) (R : D → List (Nat × HObj) → Prop) : FH zQj Tryz.f118 [.sl .int s0] [] [] true R =
 (∀ b1 : Bool, (b1 = true → s0 = []) →
 sel b1
 (R (.own 3000) [(3000, .row 3 .int ([] : List Int))])
 (room .int (([] : List Int).length + s0.length) = true ∧
 R (.own 3000) [(3000, .row 3 .int (([] : List Int) ++ s0))])) := by kernel_rfl
theorem zEq (s0 : List Int) : SatHI zQj Tryz.f118 zoc [.sl .int s0] [] [] true := satHD Tryz.func118 (by kernel_rfl) Tryz.ntmps118 rfl
def zef : Ann := { own := [], live := [(0, ([1, 2, 15, 16, 17], []))], n := 32, nils := [], pubs := [] }
def z8c (a0 : List (List Int)) (a1 : List (List Int)) (g2 : FuncId) (cap2 : List D) (R : D → Prop) (n0 : Nat) (v1 : Int) : Prop := LP zef Tryz.f126 [1, 1, 0, 1, 0, 0] 0 n0 ⟨[(1, dS a1), (2, .clo g2 (some [.bool]) cap2), (15, dS a0), (16, dI (a0.length : Int)), (17, dI v1)], []⟩ (blockK 0 (sK zef Tryz.f126 [1, 1, 1] 0 (eK Tryz.f126 R)))
theorem zff (a0 : List (List Int)) (a1 : List (List Int)) (g2 : FuncId) (cap2 : List D) (R : D → Prop) (n0 : Nat) (v1 : Int) : z8c a0 a1 g2 cap2 R (n0 + 1) v1 =
 (sel (decide (v1 < (a0.length : Int)))
 (inb v1 a0.length = true ∧
 inb v1 a1.length = true ∧
 Ent Tryz.prog g2 ∧
 Call1 Tryz.prog g2 ([.sl .int (at' (.list .int) a0 v1.toNat), .sl .int (at' (.list .int) a1 v1.toNat)] ++ cap2) .bool fun r2 =>
 sel (!r2)
 (R (dB false))
 (z8c a0 a1 g2 cap2 R n0 (w64 (v1 + 1))))
 (R (dB true))) := by kernel_rfl
theorem zRj (a0 : List (List Int)) (a1 : List (List Int)) (g2 : FuncId) (cap2 : List D) (R : D → Prop) : FD zef Tryz.f126 [dS a0, dS a1, .clo g2 (some [.bool]) cap2] R =
 (sel (!decide ((a0.length : Int) = (a1.length : Int)))
 (R (dB false))
 (∃ n0, z8c a0 a1 g2 cap2 R n0 0)) := by kernel_rfl
theorem zSj (a0 : List (List Int)) (a1 : List (List Int)) (g2 : FuncId) (cap2 : List D) : SatI zef Tryz.f126 z0b [dS a0, dS a1, .clo g2 (some [.bool]) cap2] := satD Tryz.func126 (by kernel_rfl) Tryz.ntmps126 rfl
def zgf : Ann := { own := [], live := [(0, ([0, 1, 7, 8], []))], n := 19, nils := [], pubs := [] }
def zrh (a0 : List VarD) (g1 : FuncId) (cap1 : List D) (R : D → Prop) (n0 : Nat) (v1 : Int) : Prop := LP zgf Tryz.f130 [1, 0, 1, 0, 0] 0 n0 ⟨[(0, .sl .var a0), (1, .clo g1 (some [.bool]) cap1), (7, dI (a0.length : Int)), (8, dI v1)], []⟩ (blockK 0 (sK zgf Tryz.f130 [1, 1] 0 (eK Tryz.f130 R)))
theorem zTj (a0 : List VarD) (g1 : FuncId) (cap1 : List D) (R : D → Prop) (n0 : Nat) (v1 : Int) : zrh a0 g1 cap1 R (n0 + 1) v1 =
 (sel (decide (v1 < (a0.length : Int)))
 (inb v1 a0.length = true ∧
 Ent Tryz.prog g1 ∧
 Call1 Tryz.prog g1 ([dV (at' .var a0 v1.toNat)] ++ cap1) .bool fun r2 =>
 sel r2
 (R (dI v1))
 (zrh a0 g1 cap1 R n0 (w64 (v1 + 1))))
 (R (dI (-1)))) := by kernel_rfl
theorem zFq (a0 : List VarD) (g1 : FuncId) (cap1 : List D) (R : D → Prop) : FD zgf Tryz.f130 [.sl .var a0, .clo g1 (some [.bool]) cap1] R =
 (∃ n0, zrh a0 g1 cap1 R n0 0) := by kernel_rfl
theorem zGq (a0 : List VarD) (g1 : FuncId) (cap1 : List D) : SatI zgf Tryz.f130 zEe [.sl .var a0, .clo g1 (some [.bool]) cap1] := satD Tryz.func130 (by kernel_rfl) Tryz.ntmps130 rfl
def zhf : Ann := { own := [], live := [(0, ([0, 1, 7, 8], []))], n := 19, nils := [], pubs := [] }
def zsh (a0 : List LitD) (g1 : FuncId) (cap1 : List D) (R : D → Prop) (n0 : Nat) (v1 : Int) : Prop := LP zhf Tryz.f134 [1, 0, 1, 0, 0] 0 n0 ⟨[(0, .sl .lit a0), (1, .clo g1 (some [.bool]) cap1), (7, dI (a0.length : Int)), (8, dI v1)], []⟩ (blockK 0 (sK zhf Tryz.f134 [1, 1] 0 (eK Tryz.f134 R)))
theorem zUj (a0 : List LitD) (g1 : FuncId) (cap1 : List D) (R : D → Prop) (n0 : Nat) (v1 : Int) : zsh a0 g1 cap1 R (n0 + 1) v1 =
 (sel (decide (v1 < (a0.length : Int)))
 (inb v1 a0.length = true ∧
 Ent Tryz.prog g1 ∧
 Call1 Tryz.prog g1 ([dL (at' .lit a0 v1.toNat)] ++ cap1) .bool fun r2 =>
 sel r2
 (R (dI v1))
 (zsh a0 g1 cap1 R n0 (w64 (v1 + 1))))
 (R (dI (-1)))) := by kernel_rfl
theorem zHq (a0 : List LitD) (g1 : FuncId) (cap1 : List D) (R : D → Prop) : FD zhf Tryz.f134 [.sl .lit a0, .clo g1 (some [.bool]) cap1] R =
 (∃ n0, zsh a0 g1 cap1 R n0 0) := by kernel_rfl
theorem zIq (a0 : List LitD) (g1 : FuncId) (cap1 : List D) : SatI zhf Tryz.f134 zGe [.sl .lit a0, .clo g1 (some [.bool]) cap1] := satD Tryz.func134 (by kernel_rfl) Tryz.ntmps134 rfl
def zif : Ann := { own := [], live := [(0, ([0, 1, 7, 8], []))], n := 19, nils := [], pubs := [] }
def zth (a0 : List (List Int)) (g1 : FuncId) (cap1 : List D) (R : D → Prop) (n0 : Nat) (v1 : Int) : Prop := LP zif Tryz.f135 [1, 0, 1, 0, 0] 0 n0 ⟨[(0, dS a0), (1, .clo g1 (some [.bool]) cap1), (7, dI (a0.length : Int)), (8, dI v1)], []⟩ (blockK 0 (sK zif Tryz.f135 [1, 1] 0 (eK Tryz.f135 R)))
theorem zVj (a0 : List (List Int)) (g1 : FuncId) (cap1 : List D) (R : D → Prop) (n0 : Nat) (v1 : Int) : zth a0 g1 cap1 R (n0 + 1) v1 =
 (sel (decide (v1 < (a0.length : Int)))
 (inb v1 a0.length = true ∧
 Ent Tryz.prog g1 ∧
 Call1 Tryz.prog g1 ([.sl .int (at' (.list .int) a0 v1.toNat)] ++ cap1) .bool fun r2 =>
 sel r2
 (R (dI v1))
 (zth a0 g1 cap1 R n0 (w64 (v1 + 1))))
 (R (dI (-1)))) := by kernel_rfl
theorem zJq (a0 : List (List Int)) (g1 : FuncId) (cap1 : List D) (R : D → Prop) : FD zif Tryz.f135 [dS a0, .clo g1 (some [.bool]) cap1] R =
 (∃ n0, zth a0 g1 cap1 R n0 0) := by kernel_rfl
theorem zKq (a0 : List (List Int)) (g1 : FuncId) (cap1 : List D) : SatI zif Tryz.f135 zHe [dS a0, .clo g1 (some [.bool]) cap1] := satD Tryz.func135 (by kernel_rfl) Tryz.ntmps135 rfl
def zWj : Ann := { own := [], live := [], n := 9, nils := [], pubs := [] }
theorem zLq (a0 : List Int) (a1 : Int) (R : D → Prop) : FD zWj Tryz.f141 [.sl .int a0, dI a1] R =
 (Call1 Tryz.prog zXe [.sl .int a0, dI a1] .int fun s1 =>
 R (dB (decide (0 ≤ s1)))) := by kernel_rfl
theorem zMq (a0 : List Int) (a1 : Int) : SatI zWj Tryz.f141 zAb [.sl .int a0, dI a1] := satD Tryz.func141 (by kernel_rfl) Tryz.ntmps141 rfl
def zXj : Ann := { own := [], live := [], n := 9, nils := [], pubs := [] }
theorem zNq (a0 : List LitD) (g1 : FuncId) (cap1 : List D) (R : D → Prop) : FD zXj Tryz.f144 [.sl .lit a0, .clo g1 (some [.bool]) cap1] R =
 (Call1 Tryz.prog zYe [.sl .lit a0, .clo g1 (some [.bool]) cap1] .int fun s1 =>
 R (dB (decide (0 ≤ s1)))) := by kernel_rfl
theorem zOq (a0 : List LitD) (g1 : FuncId) (cap1 : List D) : SatI zXj Tryz.f144 z3c [.sl .lit a0, .clo g1 (some [.bool]) cap1] := satD Tryz.func144 (by kernel_rfl) Tryz.ntmps144 rfl
def zjf : Ann := { own := [], live := [(0, ([0, 1, 7, 8], []))], n := 19, nils := [], pubs := [] }
def zuh (a0 : List (List Int)) (g1 : FuncId) (cap1 : List D) (R : D → Prop) (n0 : Nat) (v1 : Int) : Prop := LP zjf Tryz.f148 [1, 0, 1, 0, 0] 0 n0 ⟨[(0, dS a0), (1, .clo g1 (some [.bool]) cap1), (7, dI (a0.length : Int)), (8, dI v1)], []⟩ (blockK 0 (sK zjf Tryz.f148 [1, 1] 0 (eK Tryz.f148 R)))
theorem zYj (a0 : List (List Int)) (g1 : FuncId) (cap1 : List D) (R : D → Prop) (n0 : Nat) (v1 : Int) : zuh a0 g1 cap1 R (n0 + 1) v1 =
 (sel (decide (v1 < (a0.length : Int)))
 (inb v1 a0.length = true ∧
 Ent Tryz.prog g1 ∧
 Call1 Tryz.prog g1 ([.sl .int (at' (.list .int) a0 v1.toNat)] ++ cap1) .bool fun r2 =>
 sel r2
 (R (dI v1))
 (zuh a0 g1 cap1 R n0 (w64 (v1 + 1))))
 (R (dI (-1)))) := by kernel_rfl
theorem zPq (a0 : List (List Int)) (g1 : FuncId) (cap1 : List D) (R : D → Prop) : FD zjf Tryz.f148 [dS a0, .clo g1 (some [.bool]) cap1] R =
 (∃ n0, zuh a0 g1 cap1 R n0 0) := by kernel_rfl
theorem zQq (a0 : List (List Int)) (g1 : FuncId) (cap1 : List D) : SatI zjf Tryz.f148 zOe [dS a0, .clo g1 (some [.bool]) cap1] := satD Tryz.func148 (by kernel_rfl) Tryz.ntmps148 rfl
def zkf : Ann := { own := [], live := [(0, ([0, 1, 7, 8], []))], n := 19, nils := [], pubs := [] }
def zvh (a0 : List TermD) (g1 : FuncId) (cap1 : List D) (R : D → Prop) (n0 : Nat) (v1 : Int) : Prop := LP zkf Tryz.f171 [1, 0, 1, 0, 0] 0 n0 ⟨[(0, .sl .term a0), (1, .clo g1 (some [.bool]) cap1), (7, dI (a0.length : Int)), (8, dI v1)], []⟩ (blockK 0 (sK zkf Tryz.f171 [1, 1] 0 (eK Tryz.f171 R)))
theorem zZj (a0 : List TermD) (g1 : FuncId) (cap1 : List D) (R : D → Prop) (n0 : Nat) (v1 : Int) : zvh a0 g1 cap1 R (n0 + 1) v1 =
 (sel (decide (v1 < (a0.length : Int)))
 (inb v1 a0.length = true ∧
 Ent Tryz.prog g1 ∧
 Call1 Tryz.prog g1 ([.agg [dI ((at' .term a0 v1.toNat).v), dI ((at' .term a0 v1.toNat).times)]] ++ cap1) .bool fun r2 =>
 sel r2
 (R (dI v1))
 (zvh a0 g1 cap1 R n0 (w64 (v1 + 1))))
 (R (dI (-1)))) := by kernel_rfl
theorem zRq (a0 : List TermD) (g1 : FuncId) (cap1 : List D) (R : D → Prop) : FD zkf Tryz.f171 [.sl .term a0, .clo g1 (some [.bool]) cap1] R =
 (∃ n0, zvh a0 g1 cap1 R n0 0) := by kernel_rfl
theorem zSq (a0 : List TermD) (g1 : FuncId) (cap1 : List D) : SatI zkf Tryz.f171 z4c [.sl .term a0, .clo g1 (some [.bool]) cap1] := satD Tryz.func171 (by kernel_rfl) Tryz.ntmps171 rfl
def z0j : Ann := { own := [2, 5, 7], live := [], n := 8, nils := [], pubs := [] }
theorem zTq (s0 : List (List Int)) (R : D → List (Nat × HObj) → Prop) : FH z0j Tryz.f175 [dS s0] [] [] true R =
 (∀ b1 : Bool, (b1 = true → s0 = []) →
 sel b1
 (R (.own 3000) [(3000, .row 26 (.list .int) ([] : List (List Int)))])
 (room (.list .int) (([] : List (List Int)).length + s0.length) = true ∧
 R (.own 3000) [(3000, .row 26 (.list .int) (([] : List (List Int)) ++ s0))])) := by kernel_rfl
theorem zUq (s0 : List (List Int)) : SatHI z0j Tryz.f175 zWe [dS s0] [] [] true := satHD Tryz.func175 (by kernel_rfl) Tryz.ntmps175 rfl
def zlf : Ann := { own := [], live := [(0, ([0, 1, 7, 8], []))], n := 19, nils := [], pubs := [] }
def zwh (a0 : List Int) (a1 : Int) (R : D → Prop) (n0 : Nat) (v1 : Int) : Prop := LP zlf Tryz.f177 [1, 0, 1, 0, 0] 0 n0 ⟨[(0, .sl .int a0), (1, dI a1), (7, dI (a0.length : Int)), (8, dI v1)], []⟩ (blockK 0 (sK zlf Tryz.f177 [1, 1] 0 (eK Tryz.f177 R)))
theorem z1j (a0 : List Int) (a1 : Int) (R : D → Prop) (n0 : Nat) (v1 : Int) : zwh a0 a1 R (n0 + 1) v1 =
 (sel (decide (v1 < (a0.length : Int)))
 (inb v1 a0.length = true ∧
 sel (decide (a1 = (at' .int a0 v1.toNat)))
 (R (dI v1))
 (zwh a0 a1 R n0 (w64 (v1 + 1))))
 (R (dI (-1)))) := by kernel_rfl
theorem zVq (a0 : List Int) (a1 : Int) (R : D → Prop) : FD zlf Tryz.f177 [.sl .int a0, dI a1] R =
 (∃ n0, zwh a0 a1 R n0 0) := by kernel_rfl
theorem zWq (a0 : List Int) (a1 : Int) : SatI zlf Tryz.f177 zXe [.sl .int a0, dI a1] := satD Tryz.func177 (by kernel_rfl) Tryz.ntmps177 rfl
def zmf : Ann := { own := [], live := [(0, ([0, 1, 7, 8], []))], n := 19, nils := [], pubs := [] }
def zxh (a0 : List LitD) (g1 : FuncId) (cap1 : List D) (R : D → Prop) (n0 : Nat) (v1 : Int) : Prop := LP zmf Tryz.f178 [1, 0, 1, 0, 0] 0 n0 ⟨[(0, .sl .lit a0), (1, .clo g1 (some [.bool]) cap1), (7, dI (a0.length : Int)), (8, dI v1)], []⟩ (blockK 0 (sK zmf Tryz.f178 [1, 1] 0 (eK Tryz.f178 R)))
theorem z2j (a0 : List LitD) (g1 : FuncId) (cap1 : List D) (R : D → Prop) (n0 : Nat) (v1 : Int) : zxh a0 g1 cap1 R (n0 + 1) v1 =
 (sel (decide (v1 < (a0.length : Int)))
 (inb v1 a0.length = true ∧
 Ent Tryz.prog g1 ∧
 Call1 Tryz.prog g1 ([dL (at' .lit a0 v1.toNat)] ++ cap1) .bool fun r2 =>
 sel r2
 (R (dI v1))
 (zxh a0 g1 cap1 R n0 (w64 (v1 + 1))))
 (R (dI (-1)))) := by kernel_rfl
theorem zXq (a0 : List LitD) (g1 : FuncId) (cap1 : List D) (R : D → Prop) : FD zmf Tryz.f178 [.sl .lit a0, .clo g1 (some [.bool]) cap1] R =
 (∃ n0, zxh a0 g1 cap1 R n0 0) := by kernel_rfl
theorem zYq (a0 : List LitD) (g1 : FuncId) (cap1 : List D) : SatI zmf Tryz.f178 zYe [.sl .lit a0, .clo g1 (some [.bool]) cap1] := satD Tryz.func178 (by kernel_rfl) Tryz.ntmps178 rfl
def zwc : Ann := { own := [33], live := [(0, ([0, 3, 9, 10, 11], [])), (2, ([6, 25, 26, 27], [31536]))], n := 36, nils := [], pubs := [] }
def znf (a0 : List (List LitD)) (R : D → Prop) (n2 : Nat) (v4 : Int) (l5 : List LitD) : Prop := LP zwc Tryz.f206 [1, 1, 1, 1, 0, 1, 0, 0] 2 n2 ⟨[(6, .own 31536), (25, .sl (.list .lit) a0), (26, dI (a0.length : Int)), (27, dI v4)], [(31536, .row 86 .lit l5)]⟩ (blockK 2 (sK zwc Tryz.f206 [1, 1, 1, 1, 1] 0 (eK Tryz.f206 R)))
def zof (a0 : List (List LitD)) (R : D → Prop) (n0 : Nat) (size1 : Int) (v2 : Int) : Prop := LP zwc Tryz.f206 [1, 1, 0, 1, 0, 0] 0 n0 ⟨[(0, .sl (.list .lit) a0), (3, dI size1), (9, .sl (.list .lit) a0), (10, dI (a0.length : Int)), (11, dI v2)], []⟩ (blockK 0 (sK zwc Tryz.f206 [1, 1, 1] 0 (eK Tryz.f206 R)))
theorem zZq (a0 : List (List LitD)) (R : D → Prop) (n2 : Nat) (v4 : Int) (l5 : List LitD) : znf a0 R (n2 + 1) v4 l5 =
 (sel (decide (v4 < (a0.length : Int)))
 (inb v4 a0.length = true ∧
 room .lit (l5.length + (at' (.list .lit) a0 v4.toNat).length) = true ∧
 znf a0 R n2 (w64 (v4 + 1)) (l5 ++ (at' (.list .lit) a0 v4.toNat)))
 (R (.sl .lit l5))) := by kernel_rfl
theorem z0q (a0 : List (List LitD)) (R : D → Prop) (n0 : Nat) (size1 : Int) (v2 : Int) : zof a0 R (n0 + 1) size1 v2 =
 (sel (decide (v2 < (a0.length : Int)))
 (inb v2 a0.length = true ∧
 sel (decide ((w64 (size1 + ((at' (.list .lit) a0 v2.toNat).length : Int))) < 0))
 (False)
 (zof a0 R n0 (w64 (size1 + ((at' (.list .lit) a0 v2.toNat).length : Int))) (w64 (v2 + 1))))
 (∃ l3 : List LitD, SatH Tryz.prog zph [.nil, dI size1] [] (.own 3000) [(3000, .row 86 .lit l3)] ∧
 ∃ n2, znf a0 R n2 0 l3)) := by kernel_rfl
theorem z1q (a0 : List (List LitD)) (R : D → Prop) : FD zwc Tryz.f206 [.sl (.list .lit) a0] R =
 (∃ n0, zof a0 R n0 0 0) := by kernel_rfl
theorem z2q (a0 : List (List LitD)) : SatI zwc Tryz.f206 zuc [.sl (.list .lit) a0] := satD Tryz.func206 (by kernel_rfl) Tryz.ntmps206 rfl
end Go.Proofs.YtajnbkhgnppckaaGreatDoor
