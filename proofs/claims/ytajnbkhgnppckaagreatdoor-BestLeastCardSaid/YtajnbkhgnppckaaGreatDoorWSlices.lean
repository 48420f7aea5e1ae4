/- What the functions of a package do, as equations of plain propositions: printed by a program that carries the code out on symbols. -/
import Derived.Test.YtajnbkhgnppckaaGreatDoorWEv
namespace Go.Proofs.YtajnbkhgnppckaaGreatDoor
open Go.RowKit
set_option linter.unusedVariables false
set_option maxRecDepth 100000
def ztj : Ann := { own := [], live := [], n := 9, nils := [], pubs := [] }
theorem zWp (a0 : List Int) (g1 : FuncId) (cap1 : List D) (R : D → Prop) : FD ztj Tryz.f74 [.sl .int a0, .clo g1 (some [.bool]) cap1] R =
 (Call1 Tryz.prog zCe [.sl .int a0, .clo g1 (some [.bool]) cap1] .int fun s1 =>
 R (dB (decide (0 ≤ s1)))) := by kernel_rfl
theorem zXp (a0 : List Int) (g1 : FuncId) (cap1 : List D) : SatI ztj Tryz.f74 ztb [.sl .int a0, .clo g1 (some [.bool]) cap1] := satD Tryz.func74 (by kernel_rfl) Tryz.ntmps74 rfl
def zuj : Ann := { own := [], live := [], n := 9, nils := [], pubs := [] }
theorem zYp (a0 : List ConD) (g1 : FuncId) (cap1 : List D) (R : D → Prop) : FD zuj Tryz.f78 [.sl .con a0, .clo g1 (some [.bool]) cap1] R =
 (Call1 Tryz.prog zEe [.sl .con a0, .clo g1 (some [.bool]) cap1] .int fun s1 =>
 R (dB (decide (0 ≤ s1)))) := by kernel_rfl
theorem zZp (a0 : List ConD) (g1 : FuncId) (cap1 : List D) : SatI zuj Tryz.f78 zne [.sl .con a0, .clo g1 (some [.bool]) cap1] := satD Tryz.func78 (by kernel_rfl) Tryz.ntmps78 rfl
def zvj : Ann := { own := [2, 5, 7], live := [], n := 8, nils := [], pubs := [] }
theorem z0p (s0 : List LitD) (R : D → List (Nat × HObj) → Prop) : FH zvj Tryz.f82 [.sl .lit s0] [] [] true R =
 (∀ b1 : Bool, (b1 = true → s0 = []) →
 sel b1
 (R (.own 3000) [(3000, .row 86 .lit ([] : List LitD))])
 (room .lit (([] : List LitD).length + s0.length) = true ∧
 R (.own 3000) [(3000, .row 86 .lit (([] : List LitD) ++ s0))])) := by kernel_rfl
theorem z1p (s0 : List LitD) : SatHI zvj Tryz.f82 zqe [.sl .lit s0] [] [] true := satHD Tryz.func82 (by kernel_rfl) Tryz.ntmps82 rfl
def zqc : Ann := { own := [33], live := [(0, ([0, 3, 9, 10, 11], [])), (2, ([6, 25, 26, 27], [31536]))], n := 36, nils := [], pubs := [] }
def zcf (a0 : List (List LitD)) (R : D → Prop) (n2 : Nat) (v4 : Int) (l5 : List LitD) : Prop := LP zqc Tryz.f83 [1, 1, 1, 1, 0, 1, 0, 0] 2 n2 ⟨[(6, .own 31536), (25, .sl (.list .lit) a0), (26, dI (a0.length : Int)), (27, dI v4)], [(31536, .row 86 .lit l5)]⟩ (blockK 2 (sK zqc Tryz.f83 [1, 1, 1, 1, 1] 0 (eK Tryz.f83 R)))
def zdf (a0 : List (List LitD)) (R : D → Prop) (n0 : Nat) (size1 : Int) (v2 : Int) : Prop := LP zqc Tryz.f83 [1, 1, 0, 1, 0, 0] 0 n0 ⟨[(0, .sl (.list .lit) a0), (3, dI size1), (9, .sl (.list .lit) a0), (10, dI (a0.length : Int)), (11, dI v2)], []⟩ (blockK 0 (sK zqc Tryz.f83 [1, 1, 1] 0 (eK Tryz.f83 R)))
theorem z2p (a0 : List (List LitD)) (R : D → Prop) (n2 : Nat) (v4 : Int) (l5 : List LitD) : zcf a0 R (n2 + 1) v4 l5 =
 (sel (decide (v4 < (a0.length : Int)))
 (inb v4 a0.length = true ∧
 room .lit (l5.length + (at' (.list .lit) a0 v4.toNat).length) = true ∧
 zcf a0 R n2 (w64 (v4 + 1)) (l5 ++ (at' (.list .lit) a0 v4.toNat)))
 (R (.sl .lit l5))) := by kernel_rfl
theorem z3p (a0 : List (List LitD)) (R : D → Prop) (n0 : Nat) (size1 : Int) (v2 : Int) : zdf a0 R (n0 + 1) size1 v2 =
 (sel (decide (v2 < (a0.length : Int)))
 (inb v2 a0.length = true ∧
 sel (decide ((w64 (size1 + ((at' (.list .lit) a0 v2.toNat).length : Int))) < 0))
 (False)
 (zdf a0 R n0 (w64 (size1 + ((at' (.list .lit) a0 v2.toNat).length : Int))) (w64 (v2 + 1))))
 (∃ l3 : List LitD, SatH Tryz.prog zhh [.nil, dI size1] [] (.own 3000) [(3000, .row 86 .lit l3)] ∧
 ∃ n2, zcf a0 R n2 0 l3)) := by kernel_rfl
theorem z4p (a0 : List (List LitD)) (R : D → Prop) : FD zqc Tryz.f83 [.sl (.list .lit) a0] R =
 (∃ n0, zdf a0 R n0 0 0) := by kernel_rfl
theorem z5p (a0 : List (List LitD)) : SatI zqc Tryz.f83 zre [.sl (.list .lit) a0] := satD Tryz.func83 (by kernel_rfl) Tryz.ntmps83 rfl
def zwj : Ann := { own := [], live := [], n := 9, nils := [], pubs := [] }
theorem z6p (a0 : List VarD) (g1 : FuncId) (cap1 : List D) (R : D → Prop) : FD zwj Tryz.f89 [.sl .var a0, .clo g1 (some [.bool]) cap1] R =
 (Call1 Tryz.prog zHe [.sl .var a0, .clo g1 (some [.bool]) cap1] .int fun s1 =>
 R (dB (decide (0 ≤ s1)))) := by kernel_rfl
theorem z7p (a0 : List VarD) (g1 : FuncId) (cap1 : List D) : SatI zwj Tryz.f89 zve [.sl .var a0, .clo g1 (some [.bool]) cap1] := satD Tryz.func89 (by kernel_rfl) Tryz.ntmps89 rfl
def zxj : Ann := { own := [], live := [], n := 9, nils := [], pubs := [] }
theorem z8p (a0 : List LitD) (g1 : FuncId) (cap1 : List D) (R : D → Prop) : FD zxj Tryz.f94 [.sl .lit a0, .clo g1 (some [.bool]) cap1] R =
 (Call1 Tryz.prog zJe [.sl .lit a0, .clo g1 (some [.bool]) cap1] .int fun s1 =>
 R (dB (decide (0 ≤ s1)))) := by kernel_rfl
theorem z9p (a0 : List LitD) (g1 : FuncId) (cap1 : List D) : SatI zxj Tryz.f94 zic [.sl .lit a0, .clo g1 (some [.bool]) cap1] := satD Tryz.func94 (by kernel_rfl) Tryz.ntmps94 rfl
def zyj : Ann := { own := [], live := [], n := 9, nils := [], pubs := [] }
theorem zaq (a0 : List (List Int)) (g1 : FuncId) (cap1 : List D) (R : D → Prop) : FD zyj Tryz.f96 [dS a0, .clo g1 (some [.bool]) cap1] R =
 (Call1 Tryz.prog zKe [dS a0, .clo g1 (some [.bool]) cap1] .int fun s1 =>
 R (dB (decide (0 ≤ s1)))) := by kernel_rfl
theorem zbq (a0 : List (List Int)) (g1 : FuncId) (cap1 : List D) : SatI zyj Tryz.f96 zW [dS a0, .clo g1 (some [.bool]) cap1] := satD Tryz.func96 (by kernel_rfl) Tryz.ntmps96 rfl
def zzj : Ann := { own := [], live := [], n := 9, nils := [], pubs := [] }
theorem zcq (a0 : List (List Int)) (g1 : FuncId) (cap1 : List D) (R : D → Prop) : FD zzj Tryz.f103 [dS a0, .clo g1 (some [.bool]) cap1] R =
 (Call1 Tryz.prog zRe [dS a0, .clo g1 (some [.bool]) cap1] .int fun s1 =>
 R (dB (decide (0 ≤ s1)))) := by kernel_rfl
theorem zdq (a0 : List (List Int)) (g1 : FuncId) (cap1 : List D) : SatI zzj Tryz.f103 zAe [dS a0, .clo g1 (some [.bool]) cap1] := satD Tryz.func103 (by kernel_rfl) Tryz.ntmps103 rfl
def zef : Ann := { own := [], live := [(0, ([0, 1, 7, 8], []))], n := 19, nils := [], pubs := [] }
def zjh (a0 : List Int) (g1 : FuncId) (cap1 : List D) (R : D → Prop) (n0 : Nat) (v1 : Int) : Prop := LP zef Tryz.f111 [1, 0, 1, 0, 0] 0 n0 ⟨[(0, .sl .int a0), (1, .clo g1 (some [.bool]) cap1), (7, dI (a0.length : Int)), (8, dI v1)], []⟩ (blockK 0 (sK zef Tryz.f111 [1, 1] 0 (eK Tryz.f111 R)))
theorem zAj (a0 : List Int) (g1 : FuncId) (cap1 : List D) (R : D → Prop) (n0 : Nat) (v1 : Int) : zjh a0 g1 cap1 R (n0 + 1) v1 =
 (sel (decide (v1 < (a0.length : Int)))
 (inb v1 a0.length = true ∧
 Ent Tryz.prog g1 ∧
 Call1 Tryz.prog g1 ([dI (at' .int a0 v1.toNat)] ++ cap1) .bool fun r2 =>
 sel r2
 (R (dI v1))
 (zjh a0 g1 cap1 R n0 (w64 (v1 + 1))))
 (R (dI (-1)))) := by kernel_rfl
theorem zeq (a0 : List Int) (g1 : FuncId) (cap1 : List D) (R : D → Prop) : FD zef Tryz.f111 [.sl .int a0, .clo g1 (some [.bool]) cap1] R =
 (∃ n0, zjh a0 g1 cap1 R n0 0) := by kernel_rfl
theorem zfq (a0 : List Int) (g1 : FuncId) (cap1 : List D) : SatI zef Tryz.f111 zCe [.sl .int a0, .clo g1 (some [.bool]) cap1] := satD Tryz.func111 (by kernel_rfl) Tryz.ntmps111 rfl
def zff : Ann := { own := [], live := [(0, ([0, 1, 12, 13], []))], n := 26, nils := [], pubs := [] }
def zgf (a0 : List Int) (a1 : List Int) (R : D → Prop) (n0 : Nat) (v1 : Int) : Prop := LP zff Tryz.f117 [1, 1, 0, 1, 0, 0] 0 n0 ⟨[(0, .sl .int a0), (1, .sl .int a1), (12, dI (a0.length : Int)), (13, dI v1)], []⟩ (blockK 0 (sK zff Tryz.f117 [1, 1, 1] 0 (eK Tryz.f117 R)))
theorem zBj (a0 : List Int) (a1 : List Int) (R : D → Prop) (n0 : Nat) (v1 : Int) : zgf a0 a1 R (n0 + 1) v1 =
 (sel (decide (v1 < (a0.length : Int)))
 (inb v1 a0.length = true ∧
 inb v1 a1.length = true ∧
 sel (!decide ((at' .int a0 v1.toNat) = (at' .int a1 v1.toNat)))
 (R (dB false))
 (zgf a0 a1 R n0 (w64 (v1 + 1))))
 (R (dB true))) := by kernel_rfl
theorem zgq (a0 : List Int) (a1 : List Int) (R : D → Prop) : FD zff Tryz.f117 [.sl .int a0, .sl .int a1] R =
 (sel (!decide ((a0.length : Int) = (a1.length : Int)))
 (R (dB false))
 (∃ n0, zgf a0 a1 R n0 0)) := by kernel_rfl
theorem zhq (a0 : List Int) (a1 : List Int) : SatI zff Tryz.f117 zS [.sl .int a0, .sl .int a1] := satD Tryz.func117 (by kernel_rfl) Tryz.ntmps117 rfl
def zCj : Ann := { own := [2, 5, 7], live := [], n := 8, nils := [], pubs := [] }
theorem ziq (s0 : List Int) (R : D → List (Nat × HObj) → Prop) : FH zCj Tryz.f118 [.sl .int s0] [] [] true R =
 (∀ b1 : Bool, (b1 = true → s0 = []) →
 sel b1
 (R (.own 3000) [(3000, .row 3 .int ([] : List Int))])
 (room .int (([] : List Int).length + s0.length) = true ∧
 R (.own 3000) [(3000, .row 3 .int (([] : List Int) ++ s0))])) := by kernel_rfl
theorem zjq (s0 : List Int) : SatHI zCj Tryz.f118 zjc [.sl .int s0] [] [] true := satHD Tryz.func118 (by kernel_rfl) Tryz.ntmps118 rfl
def zhf : Ann := { own := [], live := [(0, ([0, 1, 7, 8], []))], n := 19, nils := [], pubs := [] }
def zkh (a0 : List ConD) (g1 : FuncId) (cap1 : List D) (R : D → Prop) (n0 : Nat) (v1 : Int) : Prop := LP zhf Tryz.f121 [1, 0, 1, 0, 0] 0 n0 ⟨[(0, .sl .con a0), (1, .clo g1 (some [.bool]) cap1), (7, dI (a0.length : Int)), (8, dI v1)], []⟩ (blockK 0 (sK zhf Tryz.f121 [1, 1] 0 (eK Tryz.f121 R)))
theorem zDj (a0 : List ConD) (g1 : FuncId) (cap1 : List D) (R : D → Prop) (n0 : Nat) (v1 : Int) : zkh a0 g1 cap1 R (n0 + 1) v1 =
 (sel (decide (v1 < (a0.length : Int)))
 (inb v1 a0.length = true ∧
 Ent Tryz.prog g1 ∧
 Call1 Tryz.prog g1 ([dC (at' .con a0 v1.toNat)] ++ cap1) .bool fun r2 =>
 sel r2
 (R (dI v1))
 (zkh a0 g1 cap1 R n0 (w64 (v1 + 1))))
 (R (dI (-1)))) := by kernel_rfl
theorem zkq (a0 : List ConD) (g1 : FuncId) (cap1 : List D) (R : D → Prop) : FD zhf Tryz.f121 [.sl .con a0, .clo g1 (some [.bool]) cap1] R =
 (∃ n0, zkh a0 g1 cap1 R n0 0) := by kernel_rfl
theorem zlq (a0 : List ConD) (g1 : FuncId) (cap1 : List D) : SatI zhf Tryz.f121 zEe [.sl .con a0, .clo g1 (some [.bool]) cap1] := satD Tryz.func121 (by kernel_rfl) Tryz.ntmps121 rfl
def zif : Ann := { own := [], live := [(0, ([1, 2, 15, 16, 17], []))], n := 32, nils := [], pubs := [] }
def z8c (a0 : List (List Int)) (a1 : List (List Int)) (g2 : FuncId) (cap2 : List D) (R : D → Prop) (n0 : Nat) (v1 : Int) : Prop := LP zif Tryz.f126 [1, 1, 0, 1, 0, 0] 0 n0 ⟨[(1, dS a1), (2, .clo g2 (some [.bool]) cap2), (15, dS a0), (16, dI (a0.length : Int)), (17, dI v1)], []⟩ (blockK 0 (sK zif Tryz.f126 [1, 1, 1] 0 (eK Tryz.f126 R)))
theorem zjf (a0 : List (List Int)) (a1 : List (List Int)) (g2 : FuncId) (cap2 : List D) (R : D → Prop) (n0 : Nat) (v1 : Int) : z8c a0 a1 g2 cap2 R (n0 + 1) v1 =
 (sel (decide (v1 < (a0.length : Int)))
 (inb v1 a0.length = true ∧
 inb v1 a1.length = true ∧
 Ent Tryz.prog g2 ∧
 Call1 Tryz.prog g2 ([.sl .int (at' (.list .int) a0 v1.toNat), .sl .int (at' (.list .int) a1 v1.toNat)] ++ cap2) .bool fun r2 =>
 sel (!r2)
 (R (dB false))
 (z8c a0 a1 g2 cap2 R n0 (w64 (v1 + 1))))
 (R (dB true))) := by kernel_rfl
theorem zEj (a0 : List (List Int)) (a1 : List (List Int)) (g2 : FuncId) (cap2 : List D) (R : D → Prop) : FD zif Tryz.f126 [dS a0, dS a1, .clo g2 (some [.bool]) cap2] R =
 (sel (!decide ((a0.length : Int) = (a1.length : Int)))
 (R (dB false))
 (∃ n0, z8c a0 a1 g2 cap2 R n0 0)) := by kernel_rfl
theorem zFj (a0 : List (List Int)) (a1 : List (List Int)) (g2 : FuncId) (cap2 : List D) : SatI zif Tryz.f126 zUb [dS a0, dS a1, .clo g2 (some [.bool]) cap2] := satD Tryz.func126 (by kernel_rfl) Tryz.ntmps126 rfl
def zkf : Ann := { own := [], live := [(0, ([0, 1, 7, 8], []))], n := 19, nils := [], pubs := [] }
def zlh (a0 : List VarD) (g1 : FuncId) (cap1 : List D) (R : D → Prop) (n0 : Nat) (v1 : Int) : Prop := LP zkf Tryz.f130 [1, 0, 1, 0, 0] 0 n0 ⟨[(0, .sl .var a0), (1, .clo g1 (some [.bool]) cap1), (7, dI (a0.length : Int)), (8, dI v1)], []⟩ (blockK 0 (sK zkf Tryz.f130 [1, 1] 0 (eK Tryz.f130 R)))
theorem zGj (a0 : List VarD) (g1 : FuncId) (cap1 : List D) (R : D → Prop) (n0 : Nat) (v1 : Int) : zlh a0 g1 cap1 R (n0 + 1) v1 =
 (sel (decide (v1 < (a0.length : Int)))
 (inb v1 a0.length = true ∧
 Ent Tryz.prog g1 ∧
 Call1 Tryz.prog g1 ([dV (at' .var a0 v1.toNat)] ++ cap1) .bool fun r2 =>
 sel r2
 (R (dI v1))
 (zlh a0 g1 cap1 R n0 (w64 (v1 + 1))))
 (R (dI (-1)))) := by kernel_rfl
theorem zmq (a0 : List VarD) (g1 : FuncId) (cap1 : List D) (R : D → Prop) : FD zkf Tryz.f130 [.sl .var a0, .clo g1 (some [.bool]) cap1] R =
 (∃ n0, zlh a0 g1 cap1 R n0 0) := by kernel_rfl
theorem znq (a0 : List VarD) (g1 : FuncId) (cap1 : List D) : SatI zkf Tryz.f130 zHe [.sl .var a0, .clo g1 (some [.bool]) cap1] := satD Tryz.func130 (by kernel_rfl) Tryz.ntmps130 rfl
def zlf : Ann := { own := [], live := [(0, ([0, 1, 7, 8], []))], n := 19, nils := [], pubs := [] }
def zmh (a0 : List LitD) (g1 : FuncId) (cap1 : List D) (R : D → Prop) (n0 : Nat) (v1 : Int) : Prop := LP zlf Tryz.f134 [1, 0, 1, 0, 0] 0 n0 ⟨[(0, .sl .lit a0), (1, .clo g1 (some [.bool]) cap1), (7, dI (a0.length : Int)), (8, dI v1)], []⟩ (blockK 0 (sK zlf Tryz.f134 [1, 1] 0 (eK Tryz.f134 R)))
theorem zHj (a0 : List LitD) (g1 : FuncId) (cap1 : List D) (R : D → Prop) (n0 : Nat) (v1 : Int) : zmh a0 g1 cap1 R (n0 + 1) v1 =
 (sel (decide (v1 < (a0.length : Int)))
 (inb v1 a0.length = true ∧
 Ent Tryz.prog g1 ∧
 Call1 Tryz.prog g1 ([dL (at' .lit a0 v1.toNat)] ++ cap1) .bool fun r2 =>
 sel r2
 (R (dI v1))
 (zmh a0 g1 cap1 R n0 (w64 (v1 + 1))))
 (R (dI (-1)))) := by kernel_rfl
theorem zoq (a0 : List LitD) (g1 : FuncId) (cap1 : List D) (R : D → Prop) : FD zlf Tryz.f134 [.sl .lit a0, .clo g1 (some [.bool]) cap1] R =
 (∃ n0, zmh a0 g1 cap1 R n0 0) := by kernel_rfl
theorem zpq (a0 : List LitD) (g1 : FuncId) (cap1 : List D) : SatI zlf Tryz.f134 zJe [.sl .lit a0, .clo g1 (some [.bool]) cap1] := satD Tryz.func134 (by kernel_rfl) Tryz.ntmps134 rfl
def zmf : Ann := { own := [], live := [(0, ([0, 1, 7, 8], []))], n := 19, nils := [], pubs := [] }
def znh (a0 : List (List Int)) (g1 : FuncId) (cap1 : List D) (R : D → Prop) (n0 : Nat) (v1 : Int) : Prop := LP zmf Tryz.f135 [1, 0, 1, 0, 0] 0 n0 ⟨[(0, dS a0), (1, .clo g1 (some [.bool]) cap1), (7, dI (a0.length : Int)), (8, dI v1)], []⟩ (blockK 0 (sK zmf Tryz.f135 [1, 1] 0 (eK Tryz.f135 R)))
theorem zIj (a0 : List (List Int)) (g1 : FuncId) (cap1 : List D) (R : D → Prop) (n0 : Nat) (v1 : Int) : znh a0 g1 cap1 R (n0 + 1) v1 =
 (sel (decide (v1 < (a0.length : Int)))
 (inb v1 a0.length = true ∧
 Ent Tryz.prog g1 ∧
 Call1 Tryz.prog g1 ([.sl .int (at' (.list .int) a0 v1.toNat)] ++ cap1) .bool fun r2 =>
 sel r2
 (R (dI v1))
 (znh a0 g1 cap1 R n0 (w64 (v1 + 1))))
 (R (dI (-1)))) := by kernel_rfl
theorem zqq (a0 : List (List Int)) (g1 : FuncId) (cap1 : List D) (R : D → Prop) : FD zmf Tryz.f135 [dS a0, .clo g1 (some [.bool]) cap1] R =
 (∃ n0, znh a0 g1 cap1 R n0 0) := by kernel_rfl
theorem zrq (a0 : List (List Int)) (g1 : FuncId) (cap1 : List D) : SatI zmf Tryz.f135 zKe [dS a0, .clo g1 (some [.bool]) cap1] := satD Tryz.func135 (by kernel_rfl) Tryz.ntmps135 rfl
def zJj : Ann := { own := [], live := [], n := 9, nils := [], pubs := [] }
theorem zsq (a0 : List Int) (a1 : Int) (R : D → Prop) : FD zJj Tryz.f141 [.sl .int a0, dI a1] R =
 (Call1 Tryz.prog z0e [.sl .int a0, dI a1] .int fun s1 =>
 R (dB (decide (0 ≤ s1)))) := by kernel_rfl
theorem ztq (a0 : List Int) (a1 : Int) : SatI zJj Tryz.f141 zAb [.sl .int a0, dI a1] := satD Tryz.func141 (by kernel_rfl) Tryz.ntmps141 rfl
def zKj : Ann := { own := [], live := [], n := 9, nils := [], pubs := [] }
theorem zuq (a0 : List LitD) (g1 : FuncId) (cap1 : List D) (R : D → Prop) : FD zKj Tryz.f144 [.sl .lit a0, .clo g1 (some [.bool]) cap1] R =
 (Call1 Tryz.prog z1e [.sl .lit a0, .clo g1 (some [.bool]) cap1] .int fun s1 =>
 R (dB (decide (0 ≤ s1)))) := by kernel_rfl
theorem zvq (a0 : List LitD) (g1 : FuncId) (cap1 : List D) : SatI zKj Tryz.f144 z3c [.sl .lit a0, .clo g1 (some [.bool]) cap1] := satD Tryz.func144 (by kernel_rfl) Tryz.ntmps144 rfl
def znf : Ann := { own := [], live := [(0, ([0, 1, 7, 8], []))], n := 19, nils := [], pubs := [] }
def zoh (a0 : List (List Int)) (g1 : FuncId) (cap1 : List D) (R : D → Prop) (n0 : Nat) (v1 : Int) : Prop := LP znf Tryz.f148 [1, 0, 1, 0, 0] 0 n0 ⟨[(0, dS a0), (1, .clo g1 (some [.bool]) cap1), (7, dI (a0.length : Int)), (8, dI v1)], []⟩ (blockK 0 (sK znf Tryz.f148 [1, 1] 0 (eK Tryz.f148 R)))
theorem zLj (a0 : List (List Int)) (g1 : FuncId) (cap1 : List D) (R : D → Prop) (n0 : Nat) (v1 : Int) : zoh a0 g1 cap1 R (n0 + 1) v1 =
 (sel (decide (v1 < (a0.length : Int)))
 (inb v1 a0.length = true ∧
 Ent Tryz.prog g1 ∧
 Call1 Tryz.prog g1 ([.sl .int (at' (.list .int) a0 v1.toNat)] ++ cap1) .bool fun r2 =>
 sel r2
 (R (dI v1))
 (zoh a0 g1 cap1 R n0 (w64 (v1 + 1))))
 (R (dI (-1)))) := by kernel_rfl
theorem zwq (a0 : List (List Int)) (g1 : FuncId) (cap1 : List D) (R : D → Prop) : FD znf Tryz.f148 [dS a0, .clo g1 (some [.bool]) cap1] R =
 (∃ n0, zoh a0 g1 cap1 R n0 0) := by kernel_rfl
theorem zxq (a0 : List (List Int)) (g1 : FuncId) (cap1 : List D) : SatI znf Tryz.f148 zRe [dS a0, .clo g1 (some [.bool]) cap1] := satD Tryz.func148 (by kernel_rfl) Tryz.ntmps148 rfl
def zof : Ann := { own := [], live := [(0, ([0, 1, 7, 8], []))], n := 19, nils := [], pubs := [] }
def zph (a0 : List TermD) (g1 : FuncId) (cap1 : List D) (R : D → Prop) (n0 : Nat) (v1 : Int) : Prop := LP zof Tryz.f171 [1, 0, 1, 0, 0] 0 n0 ⟨[(0, .sl .term a0), (1, .clo g1 (some [.bool]) cap1), (7, dI (a0.length : Int)), (8, dI v1)], []⟩ (blockK 0 (sK zof Tryz.f171 [1, 1] 0 (eK Tryz.f171 R)))
theorem zMj (a0 : List TermD) (g1 : FuncId) (cap1 : List D) (R : D → Prop) (n0 : Nat) (v1 : Int) : zph a0 g1 cap1 R (n0 + 1) v1 =
 (sel (decide (v1 < (a0.length : Int)))
 (inb v1 a0.length = true ∧
 Ent Tryz.prog g1 ∧
 Call1 Tryz.prog g1 ([.agg [dI ((at' .term a0 v1.toNat).v), dI ((at' .term a0 v1.toNat).times)]] ++ cap1) .bool fun r2 =>
 sel r2
 (R (dI v1))
 (zph a0 g1 cap1 R n0 (w64 (v1 + 1))))
 (R (dI (-1)))) := by kernel_rfl
theorem zyq (a0 : List TermD) (g1 : FuncId) (cap1 : List D) (R : D → Prop) : FD zof Tryz.f171 [.sl .term a0, .clo g1 (some [.bool]) cap1] R =
 (∃ n0, zph a0 g1 cap1 R n0 0) := by kernel_rfl
theorem zzq (a0 : List TermD) (g1 : FuncId) (cap1 : List D) : SatI zof Tryz.f171 z4c [.sl .term a0, .clo g1 (some [.bool]) cap1] := satD Tryz.func171 (by kernel_rfl) Tryz.ntmps171 rfl
def zNj : Ann := { own := [2, 5, 7], live := [], n := 8, nils := [], pubs := [] }
theorem zAq (s0 : List (List Int)) (R : D → List (Nat × HObj) → Prop) : FH zNj Tryz.f175 [dS s0] [] [] true R =
 (∀ b1 : Bool, (b1 = true → s0 = []) →
 sel b1
 (R (.own 3000) [(3000, .row 26 (.list .int) ([] : List (List Int)))])
 (room (.list .int) (([] : List (List Int)).length + s0.length) = true ∧
 R (.own 3000) [(3000, .row 26 (.list .int) (([] : List (List Int)) ++ s0))])) := by kernel_rfl
theorem zBq (s0 : List (List Int)) : SatHI zNj Tryz.f175 zZe [dS s0] [] [] true := satHD Tryz.func175 (by kernel_rfl) Tryz.ntmps175 rfl
def zpf : Ann := { own := [], live := [(0, ([0, 1, 7, 8], []))], n := 19, nils := [], pubs := [] }
def zqh (a0 : List Int) (a1 : Int) (R : D → Prop) (n0 : Nat) (v1 : Int) : Prop := LP zpf Tryz.f177 [1, 0, 1, 0, 0] 0 n0 ⟨[(0, .sl .int a0), (1, dI a1), (7, dI (a0.length : Int)), (8, dI v1)], []⟩ (blockK 0 (sK zpf Tryz.f177 [1, 1] 0 (eK Tryz.f177 R)))
theorem zOj (a0 : List Int) (a1 : Int) (R : D → Prop) (n0 : Nat) (v1 : Int) : zqh a0 a1 R (n0 + 1) v1 =
 (sel (decide (v1 < (a0.length : Int)))
 (inb v1 a0.length = true ∧
 sel (decide (a1 = (at' .int a0 v1.toNat)))
 (R (dI v1))
 (zqh a0 a1 R n0 (w64 (v1 + 1))))
 (R (dI (-1)))) := by kernel_rfl
theorem zCq (a0 : List Int) (a1 : Int) (R : D → Prop) : FD zpf Tryz.f177 [.sl .int a0, dI a1] R =
 (∃ n0, zqh a0 a1 R n0 0) := by kernel_rfl
theorem zDq (a0 : List Int) (a1 : Int) : SatI zpf Tryz.f177 z0e [.sl .int a0, dI a1] := satD Tryz.func177 (by kernel_rfl) Tryz.ntmps177 rfl
def zqf : Ann := { own := [], live := [(0, ([0, 1, 7, 8], []))], n := 19, nils := [], pubs := [] }
def zrh (a0 : List LitD) (g1 : FuncId) (cap1 : List D) (R : D → Prop) (n0 : Nat) (v1 : Int) : Prop := LP zqf Tryz.f178 [1, 0, 1, 0, 0] 0 n0 ⟨[(0, .sl .lit a0), (1, .clo g1 (some [.bool]) cap1), (7, dI (a0.length : Int)), (8, dI v1)], []⟩ (blockK 0 (sK zqf Tryz.f178 [1, 1] 0 (eK Tryz.f178 R)))
theorem zPj (a0 : List LitD) (g1 : FuncId) (cap1 : List D) (R : D → Prop) (n0 : Nat) (v1 : Int) : zrh a0 g1 cap1 R (n0 + 1) v1 =
 (sel (decide (v1 < (a0.length : Int)))
 (inb v1 a0.length = true ∧
 Ent Tryz.prog g1 ∧
 Call1 Tryz.prog g1 ([dL (at' .lit a0 v1.toNat)] ++ cap1) .bool fun r2 =>
 sel r2
 (R (dI v1))
 (zrh a0 g1 cap1 R n0 (w64 (v1 + 1))))
 (R (dI (-1)))) := by kernel_rfl
theorem zEq (a0 : List LitD) (g1 : FuncId) (cap1 : List D) (R : D → Prop) : FD zqf Tryz.f178 [.sl .lit a0, .clo g1 (some [.bool]) cap1] R =
 (∃ n0, zrh a0 g1 cap1 R n0 0) := by kernel_rfl
theorem zFq (a0 : List LitD) (g1 : FuncId) (cap1 : List D) : SatI zqf Tryz.f178 z1e [.sl .lit a0, .clo g1 (some [.bool]) cap1] := satD Tryz.func178 (by kernel_rfl) Tryz.ntmps178 rfl
def zrc : Ann := { own := [33], live := [(0, ([0, 3, 9, 10, 11], [])), (2, ([6, 25, 26, 27], [31536]))], n := 36, nils := [], pubs := [] }
def zrf (a0 : List (List LitD)) (R : D → Prop) (n2 : Nat) (v4 : Int) (l5 : List LitD) : Prop := LP zrc Tryz.f206 [1, 1, 1, 1, 0, 1, 0, 0] 2 n2 ⟨[(6, .own 31536), (25, .sl (.list .lit) a0), (26, dI (a0.length : Int)), (27, dI v4)], [(31536, .row 86 .lit l5)]⟩ (blockK 2 (sK zrc Tryz.f206 [1, 1, 1, 1, 1] 0 (eK Tryz.f206 R)))
def zsf (a0 : List (List LitD)) (R : D → Prop) (n0 : Nat) (size1 : Int) (v2 : Int) : Prop := LP zrc Tryz.f206 [1, 1, 0, 1, 0, 0] 0 n0 ⟨[(0, .sl (.list .lit) a0), (3, dI size1), (9, .sl (.list .lit) a0), (10, dI (a0.length : Int)), (11, dI v2)], []⟩ (blockK 0 (sK zrc Tryz.f206 [1, 1, 1] 0 (eK Tryz.f206 R)))
theorem zGq (a0 : List (List LitD)) (R : D → Prop) (n2 : Nat) (v4 : Int) (l5 : List LitD) : zrf a0 R (n2 + 1) v4 l5 =
 (sel (decide (v4 < (a0.length : Int)))
 (inb v4 a0.length = true ∧
 room .lit (l5.length + (at' (.list .lit) a0 v4.toNat).length) = true ∧
 zrf a0 R n2 (w64 (v4 + 1)) (l5 ++ (at' (.list .lit) a0 v4.toNat)))
 (R (.sl .lit l5))) := by kernel_rfl
theorem zHq (a0 : List (List LitD)) (R : D → Prop) (n0 : Nat) (size1 : Int) (v2 : Int) : zsf a0 R (n0 + 1) size1 v2 =
 (sel (decide (v2 < (a0.length : Int)))
 (inb v2 a0.length = true ∧
 sel (decide ((w64 (size1 + ((at' (.list .lit) a0 v2.toNat).length : Int))) < 0))
 (False)
 (zsf a0 R n0 (w64 (size1 + ((at' (.list .lit) a0 v2.toNat).length : Int))) (w64 (v2 + 1))))
 (∃ l3 : List LitD, SatH Tryz.prog zih [.nil, dI size1] [] (.own 3000) [(3000, .row 86 .lit l3)] ∧
 ∃ n2, zrf a0 R n2 0 l3)) := by kernel_rfl
theorem zIq (a0 : List (List LitD)) (R : D → Prop) : FD zrc Tryz.f206 [.sl (.list .lit) a0] R =
 (∃ n0, zsf a0 R n0 0 0) := by kernel_rfl
theorem zJq (a0 : List (List LitD)) : SatI zrc Tryz.f206 zpc [.sl (.list .lit) a0] := satD Tryz.func206 (by kernel_rfl) Tryz.ntmps206 rfl
end Go.Proofs.YtajnbkhgnppckaaGreatDoor
