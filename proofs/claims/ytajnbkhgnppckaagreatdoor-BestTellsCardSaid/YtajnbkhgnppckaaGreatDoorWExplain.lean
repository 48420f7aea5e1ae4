/- What the functions of a package do, as equations of plain propositions: printed by a program that carries the code out on symbols. -/
import Derived.Test.YtajnbkhgnppckaaGreatDoorWEv
namespace Go.Proofs.YtajnbkhgnppckaaGreatDoor
open Go.RowKit
set_option linter.unusedVariables false
set_option maxRecDepth 100000
def zPo : Ann := { own := [], live := [], n := 28, nils := [], pubs := [] }
theorem z1y (a0 : MdlD) (a1 : Int) (a2 : List (List Int)) (R : D → Prop) : FD zPo Tryz.f162 [dM a0, dI a1, dS a2] R =
 (Call1 Tryz.prog zg [dS a2] .bool fun s1 =>
 sel s1
 (R (.tup [.sl .lit ([] : List LitD), dB false]))
 (inb a1 a0.cons.length = true ∧
 Call1 Tryz.prog zYb [dC (at' .con a0.cons a1.toNat), dS a2] (.list (.list .int)) fun f2 =>
 Call1 Tryz.prog zg [dS f2] .bool fun s3 =>
 sel (!s3)
 (R (.tup [.sl .lit ([] : List LitD), dB false]))
 (Call1 Tryz.prog zYd [dM a0, dI a1, dS a2] (.list .lit) fun e4 =>
 Call1 Tryz.prog zXd [dM a0, dI a1, .sl .lit ([] : List LitD), .sl .lit e4] (.list .lit) fun e5 =>
 R (.tup [.sl .lit e5, dB true])))) := by kernel_rfl
theorem z2y (a0 : MdlD) (a1 : Int) (a2 : List (List Int)) : SatI zPo Tryz.f162 zVf [dM a0, dI a1, dS a2] := satD Tryz.func162 (by kernel_rfl) Tryz.ntmps162 rfl
def zQo : Ann := { own := [], live := [], n := 48, nils := [], pubs := [] }
theorem z3y (a0 : MdlD) (a1 : Int) (a2 : List (List Int)) (a3 : Int) (a4 : Int) (R : D → Prop) : FD zQo Tryz.f163 [dM a0, dI a1, dS a2, dI a3, dI a4] R =
 (Call1 Tryz.prog zg [dS a2] .bool fun s1 =>
 sel s1
 (R (.tup [.sl .lit ([] : List LitD), dB false]))
 (inb a3 a2.length = true ∧
 Call1 Tryz.prog z2b [.sl .int (at' (.list .int) a2 a3.toNat), dI a4] .bool fun s2 =>
 sel (!s2)
 (R (.tup [.sl .lit ([] : List LitD), dB false]))
 (inb a1 a0.cons.length = true ∧
 Call1 Tryz.prog zYb [dC (at' .con a0.cons a1.toNat), dS a2] (.list (.list .int)) fun f3 =>
 inb a3 f3.length = true ∧
 Call1 Tryz.prog z2b [.sl .int (at' (.list .int) f3 a3.toNat), dI a4] .bool fun s4 =>
 sel s4
 (R (.tup [.sl .lit ([] : List LitD), dB false]))
 (Call1 Tryz.prog zYd [dM a0, dI a1, dS a2] (.list .lit) fun e5 =>
 Call1 Tryz.prog zXd [dM a0, dI a1, .sl .lit ([(⟨a3, 4, a4⟩ : LitD)]), .sl .lit e5] (.list .lit) fun e6 =>
 R (.tup [.sl .lit e6, dB true]))))) := by kernel_rfl
theorem z4y (a0 : MdlD) (a1 : Int) (a2 : List (List Int)) (a3 : Int) (a4 : Int) : SatI zQo Tryz.f163 zWf [dM a0, dI a1, dS a2, dI a3, dI a4] := satD Tryz.func163 (by kernel_rfl) Tryz.ntmps163 rfl
def z0h : Ann := { own := [], live := [(0, ([1, 2, 3, 4, 9], []))], n := 38, nils := [], pubs := [] }
def zDe (a0 : MdlD) (a1 : Int) (a2 : List LitD) (R : D → Prop) (n0 : Nat) (l1 : List LitD) (i2 : Int) : Prop := LP z0h Tryz.f192 [1, 0, 1, 0, 0] 0 n0 ⟨[(1, dI a1), (2, .sl .lit a2), (3, .sl .lit l1), (4, .iptr [.sl .var a0.vars, .sl .con a0.cons, dI a0.goal, dI a0.var] 0), (9, dI i2)], []⟩ (blockK 0 (sK z0h Tryz.f192 [1, 1] 0 (eK Tryz.f192 R)))
theorem zRo (a0 : MdlD) (a1 : Int) (a2 : List LitD) (R : D → Prop) (n0 : Nat) (l1 : List LitD) (i2 : Int) : zDe a0 a1 a2 R (n0 + 1) l1 i2 =
 (sel (decide (i2 < (l1.length : Int)))
 (inSl 0 i2 l1.length = true ∧
 inSl (w64 (i2 + 1)) (l1.length : Int) l1.length = true ∧
 Call1 Tryz.prog z3c [.sl (.list .lit) ([(l1.take i2.toNat).drop 0, (l1.take (l1.length : Int).toNat).drop (w64 (i2 + 1)).toNat])] (.list .lit) fun s3 =>
 Call1 Tryz.prog z3c [.sl (.list .lit) ([a2, s3])] (.list .lit) fun s4 =>
 Call1 Tryz.prog z6f [dM a0, dI a1, .sl .lit s4] .bool fun p5 =>
 sel p5
 (zDe a0 a1 a2 R n0 s3 i2)
 (zDe a0 a1 a2 R n0 l1 (w64 (i2 + 1))))
 (Call1 Tryz.prog z3c [.sl (.list .lit) ([a2, l1])] (.list .lit) fun s6 =>
 R (.sl .lit s6))) := by kernel_rfl
theorem z5y (a0 : MdlD) (a1 : Int) (a2 : List LitD) (a3 : List LitD) (R : D → Prop) : FD z0h Tryz.f192 [dM a0, dI a1, .sl .lit a2, .sl .lit a3] R =
 (∃ n0, zDe a0 a1 a2 R n0 a3 0) := by kernel_rfl
theorem z6y (a0 : MdlD) (a1 : Int) (a2 : List LitD) (a3 : List LitD) : SatI z0h Tryz.f192 zXd [dM a0, dI a1, .sl .lit a2, .sl .lit a3] := satD Tryz.func192 (by kernel_rfl) Tryz.ntmps192 rfl
def zdc : Ann := { own := [7, 50], live := [(0, ([2, 3, 7, 16, 17, 18], [7])), (2, ([2, 3, 7, 9, 10, 16, 17, 18], [7]))], n := 53, nils := [], pubs := [] }
def zEe (a0 : MdlD) (a2 : List (List Int)) (R : D → Prop) (m1 : List Int) (n0 : Nat) (v2 : Int) (n2 : Nat) (n4 : Int) (out5 : List LitD) : Prop := LP zdc Tryz.f193 [1, 1, 0, 1, 0, 0, 1, 1, 0, 0, 1, 1, 0, 0] 2 n2 ⟨[(2, dS a2), (3, .iptr [.sl .var a0.vars, .sl .con a0.cons, dI a0.goal, dI a0.var] 0), (7, .own 7), (9, dI (at' .int m1 v2.toNat)), (10, dI n4), (16, .sl .int m1), (17, dI (m1.length : Int)), (18, dI v2)], [(7, .row 86 .lit out5)]⟩ (blockK 2 (blockK 1 (sK zdc Tryz.f193 [1, 1, 0, 1, 0, 0, 1, 1, 1] 0 (iK zdc Tryz.f193 [1, 1, 0, 1, 0, 0] 0 n0 (blockK 0 (sK zdc Tryz.f193 [1, 1, 1] 0 (eK Tryz.f193 R)))))))
def z1h (a0 : MdlD) (a2 : List (List Int)) (R : D → Prop) (m1 : List Int) (n0 : Nat) (v2 : Int) (out3 : List LitD) : Prop := LP zdc Tryz.f193 [1, 1, 0, 1, 0, 0] 0 n0 ⟨[(2, dS a2), (3, .iptr [.sl .var a0.vars, .sl .con a0.cons, dI a0.goal, dI a0.var] 0), (7, .own 7), (16, .sl .int m1), (17, dI (m1.length : Int)), (18, dI v2)], [(7, .row 86 .lit out3)]⟩ (blockK 0 (sK zdc Tryz.f193 [1, 1, 1] 0 (eK Tryz.f193 R)))
theorem z7y (a0 : MdlD) (a2 : List (List Int)) (R : D → Prop) (m1 : List Int) (n0 : Nat) (v2 : Int) (n2 : Nat) (n4 : Int) (out5 : List LitD) : zEe a0 a2 R m1 n0 v2 (n2 + 1) n4 out5 =
 (inb (at' .int m1 v2.toNat) a0.vars.length = true ∧
 sel (decide (n4 ≤ ((at' .var a0.vars ((at' .int m1 v2.toNat).toNat)).hi)))
 (inb (at' .int m1 v2.toNat) a2.length = true ∧
 Call1 Tryz.prog z2b [.sl .int (at' (.list .int) a2 ((at' .int m1 v2.toNat).toNat)), dI n4] .bool fun s6 =>
 sel (!s6)
 (room .lit (out5.length + ([(⟨at' .int m1 v2.toNat, 3, n4⟩ : LitD)]).length) = true ∧
 zEe a0 a2 R m1 n0 v2 n2 (w64 (n4 + 1)) (out5 ++ ([(⟨at' .int m1 v2.toNat, 3, n4⟩ : LitD)])))
 (zEe a0 a2 R m1 n0 v2 n2 (w64 (n4 + 1)) out5))
 (z1h a0 a2 R m1 n0 (w64 (v2 + 1)) out5)) := by kernel_rfl
theorem z8y (a0 : MdlD) (a2 : List (List Int)) (R : D → Prop) (m1 : List Int) (n0 : Nat) (v2 : Int) (out3 : List LitD) : z1h a0 a2 R m1 (n0 + 1) v2 out3 =
 (sel (decide (v2 < (m1.length : Int)))
 (inb v2 m1.length = true ∧
 inb (at' .int m1 v2.toNat) a0.vars.length = true ∧
 ∃ n2, zEe a0 a2 R m1 n0 v2 n2 ((at' .var a0.vars ((at' .int m1 v2.toNat).toNat)).lo) out3)
 (R (.sl .lit out3))) := by kernel_rfl
theorem z9y (a0 : MdlD) (a1 : Int) (a2 : List (List Int)) (R : D → Prop) : FD zdc Tryz.f193 [dM a0, dI a1, dS a2] R =
 (inb a1 a0.cons.length = true ∧
 Call1 Tryz.prog zrc [dC (at' .con a0.cons a1.toNat)] (.list .int) fun m1 =>
 ∃ n0, z1h a0 a2 R m1 n0 0 ([] : List LitD)) := by kernel_rfl
theorem zaz (a0 : MdlD) (a1 : Int) (a2 : List (List Int)) : SatI zdc Tryz.f193 zYd [dM a0, dI a1, dS a2] := satD Tryz.func193 (by kernel_rfl) Tryz.ntmps193 rfl
end Go.Proofs.YtajnbkhgnppckaaGreatDoor
