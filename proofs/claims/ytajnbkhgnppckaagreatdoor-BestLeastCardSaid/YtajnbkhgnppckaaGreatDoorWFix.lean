/- What the functions of a package do, as equations of plain propositions: printed by a program that carries the code out on symbols. -/
import Derived.Test.YtajnbkhgnppckaaGreatDoorWEv
namespace Go.Proofs.YtajnbkhgnppckaaGreatDoor
open Go.RowKit
set_option linter.unusedVariables false
set_option maxRecDepth 100000
def zx : Ann := { own := [], live := [(0, ([1, 2, 3, 4], [])), (2, ([1, 2, 3, 4, 9, 10], [])), (4, ([1, 2, 3, 4, 9, 11], []))], n := 62, nils := [], pubs := [] }
def zxd (a0 : MdlD) (a2 : Bool) (a3 : List (List LitD)) (R : D → Prop) (n0 : Nat) (s2 : List (List Int)) (n4 : Nat) (s7 : List (List Int)) (i8 : Int) : Prop := LP zx Tryz.f60 [1, 1, 0, 0, 0, 1, 1, 0, 1, 0, 0] 4 n4 ⟨[(1, dS s7), (2, dB a2), (3, .sl (.list .lit) a3), (4, .iptr [.sl .var a0.vars, .sl .con a0.cons, dI a0.goal, dI a0.var] 0), (9, dS s2), (11, dI i8)], []⟩ (blockK 4 (sK zx Tryz.f60 [1, 1, 0, 0, 0, 1, 1, 1] 1 (blockK 1 (iK zx Tryz.f60 [1, 1, 0, 0] 0 n0 (blockK 0 (eK Tryz.f60 R))))))
def zyd (a0 : MdlD) (a2 : Bool) (a3 : List (List LitD)) (R : D → Prop) (n0 : Nat) (s2 : List (List Int)) (n4_2 : Nat) (s17 : List (List Int)) (i18 : Int) : Prop := LP zx Tryz.f60 [1, 1, 0, 0, 0, 1, 1, 0, 1, 0, 0] 4 n4_2 ⟨[(1, dS s17), (2, dB a2), (3, .sl (.list .lit) a3), (4, .iptr [.sl .var a0.vars, .sl .con a0.cons, dI a0.goal, dI a0.var] 0), (9, dS s2), (11, dI i18)], []⟩ (blockK 4 (sK zx Tryz.f60 [1, 1, 0, 0, 0, 1, 1, 1] 1 (blockK 1 (iK zx Tryz.f60 [1, 1, 0, 0] 0 n0 (blockK 0 (eK Tryz.f60 R))))))
def zcg (a0 : MdlD) (a2 : Bool) (a3 : List (List LitD)) (R : D → Prop) (n0 : Nat) (s2 : List (List Int)) (n4_3 : Nat) (s27 : List (List Int)) (i28 : Int) : Prop := LP zx Tryz.f60 [1, 1, 0, 0, 0, 1, 1, 0, 1, 0, 0] 4 n4_3 ⟨[(1, dS s27), (2, dB a2), (3, .sl (.list .lit) a3), (4, .iptr [.sl .var a0.vars, .sl .con a0.cons, dI a0.goal, dI a0.var] 0), (9, dS s2), (11, dI i28)], []⟩ (blockK 4 (sK zx Tryz.f60 [1, 1, 0, 0, 0, 1, 1, 1] 1 (blockK 1 (iK zx Tryz.f60 [1, 1, 0, 0] 0 n0 (blockK 0 (eK Tryz.f60 R))))))
def z0b (a0 : MdlD) (a2 : Bool) (a3 : List (List LitD)) (R : D → Prop) (n0 : Nat) (s2 : List (List Int)) (n2 : Nat) (s3 : List (List Int)) (i4 : Int) : Prop := LP zx Tryz.f60 [1, 1, 0, 0, 0, 1, 0, 1, 0, 0] 2 n2 ⟨[(1, dS s3), (2, dB a2), (3, .sl (.list .lit) a3), (4, .iptr [.sl .var a0.vars, .sl .con a0.cons, dI a0.goal, dI a0.var] 0), (9, dS s2), (10, dI i4)], []⟩ (blockK 2 (sK zx Tryz.f60 [1, 1, 0, 0, 0, 1, 1] 1 (blockK 1 (iK zx Tryz.f60 [1, 1, 0, 0] 0 n0 (blockK 0 (eK Tryz.f60 R))))))
def zD (a0 : MdlD) (a2 : Bool) (a3 : List (List LitD)) (R : D → Prop) (n0 : Nat) (s2 : List (List Int)) : Prop := LP zx Tryz.f60 [1, 1, 0, 0] 0 n0 ⟨[(1, dS s2), (2, dB a2), (3, .sl (.list .lit) a3), (4, .iptr [.sl .var a0.vars, .sl .con a0.cons, dI a0.goal, dI a0.var] 0)], []⟩ (blockK 0 (eK Tryz.f60 R))
theorem zdv (a0 : MdlD) (a2 : Bool) (a3 : List (List LitD)) (R : D → Prop) (n0 : Nat) (s2 : List (List Int)) (n4 : Nat) (s7 : List (List Int)) (i8 : Int) : zxd a0 a2 a3 R n0 s2 (n4 + 1) s7 i8 =
 (sel (decide (i8 < (a3.length : Int)))
 (Call1 Tryz.prog zf [dS s7] .bool fun s9 =>
 sel (!s9)
 (inb i8 a3.length = true ∧
 Call1 Tryz.prog zTb [dS s7, .sl .lit (at' (.list .lit) a3 i8.toNat)] (.list (.list .int)) fun c10 =>
 zxd a0 a2 a3 R n0 s2 n4 c10 (w64 (i8 + 1)))
 (Call1 Tryz.prog zf [dS s7] .bool fun s11 =>
 sel s11
 (Call1 Tryz.prog zG [dS s7] (.list (.list .int)) fun s12 =>
 R (dS s12))
 (Call1 Tryz.prog zX [dS s7, dS s2] .bool fun f13 =>
 sel f13
 (R (dS s7))
 (zD a0 a2 a3 R n0 s7))))
 (Call1 Tryz.prog zf [dS s7] .bool fun s14 =>
 sel s14
 (Call1 Tryz.prog zG [dS s7] (.list (.list .int)) fun s15 =>
 R (dS s15))
 (Call1 Tryz.prog zX [dS s7, dS s2] .bool fun f16 =>
 sel f16
 (R (dS s7))
 (zD a0 a2 a3 R n0 s7)))) := by kernel_rfl
theorem zev (a0 : MdlD) (a2 : Bool) (a3 : List (List LitD)) (R : D → Prop) (n0 : Nat) (s2 : List (List Int)) (n4_2 : Nat) (s17 : List (List Int)) (i18 : Int) : zyd a0 a2 a3 R n0 s2 (n4_2 + 1) s17 i18 =
 (sel (decide (i18 < (a3.length : Int)))
 (Call1 Tryz.prog zf [dS s17] .bool fun s19 =>
 sel (!s19)
 (inb i18 a3.length = true ∧
 Call1 Tryz.prog zTb [dS s17, .sl .lit (at' (.list .lit) a3 i18.toNat)] (.list (.list .int)) fun c20 =>
 zyd a0 a2 a3 R n0 s2 n4_2 c20 (w64 (i18 + 1)))
 (Call1 Tryz.prog zf [dS s17] .bool fun s21 =>
 sel s21
 (Call1 Tryz.prog zG [dS s17] (.list (.list .int)) fun s22 =>
 R (dS s22))
 (Call1 Tryz.prog zX [dS s17, dS s2] .bool fun f23 =>
 sel f23
 (R (dS s17))
 (zD a0 a2 a3 R n0 s17))))
 (Call1 Tryz.prog zf [dS s17] .bool fun s24 =>
 sel s24
 (Call1 Tryz.prog zG [dS s17] (.list (.list .int)) fun s25 =>
 R (dS s25))
 (Call1 Tryz.prog zX [dS s17, dS s2] .bool fun f26 =>
 sel f26
 (R (dS s17))
 (zD a0 a2 a3 R n0 s17)))) := by kernel_rfl
theorem zfv (a0 : MdlD) (a2 : Bool) (a3 : List (List LitD)) (R : D → Prop) (n0 : Nat) (s2 : List (List Int)) (n4_3 : Nat) (s27 : List (List Int)) (i28 : Int) : zcg a0 a2 a3 R n0 s2 (n4_3 + 1) s27 i28 =
 (sel (decide (i28 < (a3.length : Int)))
 (Call1 Tryz.prog zf [dS s27] .bool fun s29 =>
 sel (!s29)
 (inb i28 a3.length = true ∧
 Call1 Tryz.prog zTb [dS s27, .sl .lit (at' (.list .lit) a3 i28.toNat)] (.list (.list .int)) fun c30 =>
 zcg a0 a2 a3 R n0 s2 n4_3 c30 (w64 (i28 + 1)))
 (Call1 Tryz.prog zf [dS s27] .bool fun s31 =>
 sel s31
 (Call1 Tryz.prog zG [dS s27] (.list (.list .int)) fun s32 =>
 R (dS s32))
 (Call1 Tryz.prog zX [dS s27, dS s2] .bool fun f33 =>
 sel f33
 (R (dS s27))
 (zD a0 a2 a3 R n0 s27))))
 (Call1 Tryz.prog zf [dS s27] .bool fun s34 =>
 sel s34
 (Call1 Tryz.prog zG [dS s27] (.list (.list .int)) fun s35 =>
 R (dS s35))
 (Call1 Tryz.prog zX [dS s27, dS s2] .bool fun f36 =>
 sel f36
 (R (dS s27))
 (zD a0 a2 a3 R n0 s27)))) := by kernel_rfl
theorem zdg (a0 : MdlD) (a2 : Bool) (a3 : List (List LitD)) (R : D → Prop) (n0 : Nat) (s2 : List (List Int)) (n2 : Nat) (s3 : List (List Int)) (i4 : Int) : z0b a0 a2 a3 R n0 s2 (n2 + 1) s3 i4 =
 (sel a2
 (sel (decide (i4 < (a0.cons.length : Int)))
 (Call1 Tryz.prog zf [dS s3] .bool fun s5 =>
 sel (!s5)
 (inb i4 a0.cons.length = true ∧
 Call1 Tryz.prog zwb [dC (at' .con a0.cons i4.toNat), dS s3] (.list (.list .int)) fun f6 =>
 z0b a0 a2 a3 R n0 s2 n2 f6 (w64 (i4 + 1)))
 (∃ n4, zxd a0 a2 a3 R n0 s2 n4 s3 0))
 (∃ n4_2, zyd a0 a2 a3 R n0 s2 n4_2 s3 0))
 (∃ n4_3, zcg a0 a2 a3 R n0 s2 n4_3 s3 0)) := by kernel_rfl
theorem zgv (a0 : MdlD) (a2 : Bool) (a3 : List (List LitD)) (R : D → Prop) (n0 : Nat) (s2 : List (List Int)) : zD a0 a2 a3 R (n0 + 1) s2 =
 (∃ n2, z0b a0 a2 a3 R n0 s2 n2 s2 0) := by kernel_rfl
theorem zhv (a0 : MdlD) (a1 : List (List Int)) (a2 : Bool) (a3 : List (List LitD)) (R : D → Prop) : FD zx Tryz.f60 [dM a0, dS a1, dB a2, .sl (.list .lit) a3] R =
 (Call1 Tryz.prog zvb [dS a1] (.list (.list .int)) fun s1 =>
 ∃ n0, zD a0 a2 a3 R n0 s1) := by kernel_rfl
theorem ziv (a0 : MdlD) (a1 : List (List Int)) (a2 : Bool) (a3 : List (List LitD)) : SatI zx Tryz.f60 zeb [dM a0, dS a1, dB a2, .sl (.list .lit) a3] := satD Tryz.func60 (by kernel_rfl) Tryz.ntmps60 rfl
def zYl : Ann := { own := [], live := [], n := 8, nils := [], pubs := [] }
theorem zjv (a0 : List (List Int)) (a1 : List (List Int)) (R : D → Prop) : FD zYl Tryz.f102 [dS a0, dS a1] R =
 (Call1 Tryz.prog zUb [dS a0, dS a1, .clo znc none []] .bool fun s1 =>
 R (dB s1)) := by kernel_rfl
theorem zkv (a0 : List (List Int)) (a1 : List (List Int)) : SatI zYl Tryz.f102 zX [dS a0, dS a1] := satD Tryz.func102 (by kernel_rfl) Tryz.ntmps102 rfl
def zZl : Ann := { own := [], live := [], n := 10, nils := [], pubs := [] }
theorem zlv (a0 : List Int) (a1 : List Int) (R : D → Prop) : FD zZl Tryz.f147 [.sl .int a0, .sl .int a1] R =
 (R (dB (decide ((a0.length : Int) = (a1.length : Int))))) := by kernel_rfl
theorem zmv (a0 : List Int) (a1 : List Int) : SatI zZl Tryz.f147 znc [.sl .int a0, .sl .int a1] := satD Tryz.func147 (by kernel_rfl) Tryz.ntmps147 rfl
end Go.Proofs.YtajnbkhgnppckaaGreatDoor
