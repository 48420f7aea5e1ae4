/- What the functions of a package do, as equations of plain propositions: printed by a program that carries the code out on symbols. -/
import Derived.Test.YtajnbkhgnppckaaGreatDoorWEv
namespace Go.Proofs.YtajnbkhgnppckaaGreatDoor
open Go.RowKit
set_option linter.unusedVariables false
set_option maxRecDepth 100000
def zam : Ann := { own := [], live := [], n := 28, nils := [], pubs := [] }
theorem zEv (a0 : MdlD) (a1 : Int) (a2 : List (List Int)) (R : D → Prop) : FD zam Tryz.f162 [dM a0, dI a1, dS a2] R =
 (Call1 Tryz.prog zf [dS a2] .bool fun s1 =>
 sel s1
 (R (.tup [.sl .lit ([] : List LitD), dB false]))
 (inb a1 a0.cons.length = true ∧
 Call1 Tryz.prog zwb [dC (at' .con a0.cons a1.toNat), dS a2] (.list (.list .int)) fun f2 =>
 Call1 Tryz.prog zf [dS f2] .bool fun s3 =>
 sel (!s3)
 (R (.tup [.sl .lit ([] : List LitD), dB false]))
 (Call1 Tryz.prog z6c [dM a0, dI a1, dS a2] (.list .lit) fun e4 =>
 Call1 Tryz.prog z5c [dM a0, dI a1, .sl .lit ([] : List LitD), .sl .lit e4] (.list .lit) fun e5 =>
 R (.tup [.sl .lit e5, dB true])))) := by kernel_rfl
theorem zFv (a0 : MdlD) (a1 : Int) (a2 : List (List Int)) : SatI zam Tryz.f162 zTe [dM a0, dI a1, dS a2] := satD Tryz.func162 (by kernel_rfl) Tryz.ntmps162 rfl
def zbm : Ann := { own := [], live := [], n := 48, nils := [], pubs := [] }
theorem zGv (a0 : MdlD) (a1 : Int) (a2 : List (List Int)) (a3 : Int) (a4 : Int) (R : D → Prop) : FD zbm Tryz.f163 [dM a0, dI a1, dS a2, dI a3, dI a4] R =
 (Call1 Tryz.prog zf [dS a2] .bool fun s1 =>
 sel s1
 (R (.tup [.sl .lit ([] : List LitD), dB false]))
 (inb a3 a2.length = true ∧
 Call1 Tryz.prog zAb [.sl .int (at' (.list .int) a2 a3.toNat), dI a4] .bool fun s2 =>
 sel (!s2)
 (R (.tup [.sl .lit ([] : List LitD), dB false]))
 (inb a1 a0.cons.length = true ∧
 Call1 Tryz.prog zwb [dC (at' .con a0.cons a1.toNat), dS a2] (.list (.list .int)) fun f3 =>
 inb a3 f3.length = true ∧
 Call1 Tryz.prog zAb [.sl .int (at' (.list .int) f3 a3.toNat), dI a4] .bool fun s4 =>
 sel s4
 (R (.tup [.sl .lit ([] : List LitD), dB false]))
 (Call1 Tryz.prog z6c [dM a0, dI a1, dS a2] (.list .lit) fun e5 =>
 Call1 Tryz.prog z5c [dM a0, dI a1, .sl .lit ([(⟨a3, 4, a4⟩ : LitD)]), .sl .lit e5] (.list .lit) fun e6 =>
 R (.tup [.sl .lit e6, dB true]))))) := by kernel_rfl
theorem zHv (a0 : MdlD) (a1 : Int) (a2 : List (List Int)) (a3 : Int) (a4 : Int) : SatI zbm Tryz.f163 zUe [dM a0, dI a1, dS a2, dI a3, dI a4] := satD Tryz.func163 (by kernel_rfl) Tryz.ntmps163 rfl
def zfg : Ann := { own := [], live := [(0, ([1, 2, 3, 4, 9], []))], n := 38, nils := [], pubs := [] }
def zBd (a0 : MdlD) (a1 : Int) (a2 : List LitD) (R : D → Prop) (n0 : Nat) (l1 : List LitD) (i2 : Int) : Prop := LP zfg Tryz.f192 [1, 0, 1, 0, 0] 0 n0 ⟨[(1, dI a1), (2, .sl .lit a2), (3, .sl .lit l1), (4, .iptr [.sl .var a0.vars, .sl .con a0.cons, dI a0.goal, dI a0.var] 0), (9, dI i2)], []⟩ (blockK 0 (sK zfg Tryz.f192 [1, 1] 0 (eK Tryz.f192 R)))
theorem zcm (a0 : MdlD) (a1 : Int) (a2 : List LitD) (R : D → Prop) (n0 : Nat) (l1 : List LitD) (i2 : Int) : zBd a0 a1 a2 R (n0 + 1) l1 i2 =
 (sel (decide (i2 < (l1.length : Int)))
 (inSl 0 i2 l1.length = true ∧
 inSl (w64 (i2 + 1)) (l1.length : Int) l1.length = true ∧
 Call1 Tryz.prog zpc [.sl (.list .lit) ([(l1.take i2.toNat).drop 0, (l1.take (l1.length : Int).toNat).drop (w64 (i2 + 1)).toNat])] (.list .lit) fun s3 =>
 Call1 Tryz.prog zpc [.sl (.list .lit) ([a2, s3])] (.list .lit) fun s4 =>
 Call1 Tryz.prog z3e [dM a0, dI a1, .sl .lit s4] .bool fun p5 =>
 sel p5
 (zBd a0 a1 a2 R n0 s3 i2)
 (zBd a0 a1 a2 R n0 l1 (w64 (i2 + 1))))
 (Call1 Tryz.prog zpc [.sl (.list .lit) ([a2, l1])] (.list .lit) fun s6 =>
 R (.sl .lit s6))) := by kernel_rfl
theorem zIv (a0 : MdlD) (a1 : Int) (a2 : List LitD) (a3 : List LitD) (R : D → Prop) : FD zfg Tryz.f192 [dM a0, dI a1, .sl .lit a2, .sl .lit a3] R =
 (∃ n0, zBd a0 a1 a2 R n0 a3 0) := by kernel_rfl
theorem zJv (a0 : MdlD) (a1 : Int) (a2 : List LitD) (a3 : List LitD) : SatI zfg Tryz.f192 z5c [dM a0, dI a1, .sl .lit a2, .sl .lit a3] := satD Tryz.func192 (by kernel_rfl) Tryz.ntmps192 rfl
def zHb : Ann := { own := [7, 50], live := [(0, ([2, 3, 7, 16, 17, 18], [7])), (2, ([2, 3, 7, 9, 10, 16, 17, 18], [7]))], n := 53, nils := [], pubs := [] }
def zCd (a0 : MdlD) (a2 : List (List Int)) (R : D → Prop) (m1 : List Int) (n0 : Nat) (v2 : Int) (n2 : Nat) (n4 : Int) (out5 : List LitD) : Prop := LP zHb Tryz.f193 [1, 1, 0, 1, 0, 0, 1, 1, 0, 0, 1, 1, 0, 0] 2 n2 ⟨[(2, dS a2), (3, .iptr [.sl .var a0.vars, .sl .con a0.cons, dI a0.goal, dI a0.var] 0), (7, .own 7), (9, dI (at' .int m1 v2.toNat)), (10, dI n4), (16, .sl .int m1), (17, dI (m1.length : Int)), (18, dI v2)], [(7, .row 86 .lit out5)]⟩ (blockK 2 (blockK 1 (sK zHb Tryz.f193 [1, 1, 0, 1, 0, 0, 1, 1, 1] 0 (iK zHb Tryz.f193 [1, 1, 0, 1, 0, 0] 0 n0 (blockK 0 (sK zHb Tryz.f193 [1, 1, 1] 0 (eK Tryz.f193 R)))))))
def zgg (a0 : MdlD) (a2 : List (List Int)) (R : D → Prop) (m1 : List Int) (n0 : Nat) (v2 : Int) (out3 : List LitD) : Prop := LP zHb Tryz.f193 [1, 1, 0, 1, 0, 0] 0 n0 ⟨[(2, dS a2), (3, .iptr [.sl .var a0.vars, .sl .con a0.cons, dI a0.goal, dI a0.var] 0), (7, .own 7), (16, .sl .int m1), (17, dI (m1.length : Int)), (18, dI v2)], [(7, .row 86 .lit out3)]⟩ (blockK 0 (sK zHb Tryz.f193 [1, 1, 1] 0 (eK Tryz.f193 R)))
theorem zKv (a0 : MdlD) (a2 : List (List Int)) (R : D → Prop) (m1 : List Int) (n0 : Nat) (v2 : Int) (n2 : Nat) (n4 : Int) (out5 : List LitD) : zCd a0 a2 R m1 n0 v2 (n2 + 1) n4 out5 =
 (inb (at' .int m1 v2.toNat) a0.vars.length = true ∧
 sel (decide (n4 ≤ ((at' .var a0.vars ((at' .int m1 v2.toNat).toNat)).hi)))
 (inb (at' .int m1 v2.toNat) a2.length = true ∧
 Call1 Tryz.prog zAb [.sl .int (at' (.list .int) a2 ((at' .int m1 v2.toNat).toNat)), dI n4] .bool fun s6 =>
 sel (!s6)
 (room .lit (out5.length + ([(⟨at' .int m1 v2.toNat, 3, n4⟩ : LitD)]).length) = true ∧
 zCd a0 a2 R m1 n0 v2 n2 (w64 (n4 + 1)) (out5 ++ ([(⟨at' .int m1 v2.toNat, 3, n4⟩ : LitD)])))
 (zCd a0 a2 R m1 n0 v2 n2 (w64 (n4 + 1)) out5))
 (zgg a0 a2 R m1 n0 (w64 (v2 + 1)) out5)) := by kernel_rfl
theorem zLv (a0 : MdlD) (a2 : List (List Int)) (R : D → Prop) (m1 : List Int) (n0 : Nat) (v2 : Int) (out3 : List LitD) : zgg a0 a2 R m1 (n0 + 1) v2 out3 =
 (sel (decide (v2 < (m1.length : Int)))
 (inb v2 m1.length = true ∧
 inb (at' .int m1 v2.toNat) a0.vars.length = true ∧
 ∃ n2, zCd a0 a2 R m1 n0 v2 n2 ((at' .var a0.vars ((at' .int m1 v2.toNat).toNat)).lo) out3)
 (R (.sl .lit out3))) := by kernel_rfl
theorem zMv (a0 : MdlD) (a1 : Int) (a2 : List (List Int)) (R : D → Prop) : FD zHb Tryz.f193 [dM a0, dI a1, dS a2] R =
 (inb a1 a0.cons.length = true ∧
 Call1 Tryz.prog zub [dC (at' .con a0.cons a1.toNat)] (.list .int) fun m1 =>
 ∃ n0, zgg a0 a2 R m1 n0 0 ([] : List LitD)) := by kernel_rfl
theorem zNv (a0 : MdlD) (a1 : Int) (a2 : List (List Int)) : SatI zHb Tryz.f193 z6c [dM a0, dI a1, dS a2] := satD Tryz.func193 (by kernel_rfl) Tryz.ntmps193 rfl
end Go.Proofs.YtajnbkhgnppckaaGreatDoor
