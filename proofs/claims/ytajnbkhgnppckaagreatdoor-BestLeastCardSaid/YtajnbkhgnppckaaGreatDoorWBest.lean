/- What the functions of a package do, as equations of plain propositions: printed by a program that carries the code out on symbols. -/
import Derived.Test.YtajnbkhgnppckaaGreatDoorWEv
namespace Go.Proofs.YtajnbkhgnppckaaGreatDoor
open Go.RowKit
set_option linter.unusedVariables false
set_option maxRecDepth 100000
def zbn : Ann := { own := [], live := [], n := 54, nils := [], pubs := [], first := true }
theorem zsx (a0 : MdlD) (a1 : List Int) (R : D → Prop) : FD zbn Tryz.f18 [dM a0, .sl .int a1] R =
 (Call1 Tryz.prog zdb [dM a0] .int fun m1 =>
 sel (!decide (m1 = 0))
 (R (.tup [.sl .lit ([] : List LitD), dI m1]))
 (sel (!decide ((a1.length : Int) = (a0.vars.length : Int)))
 (R (.tup [.sl .lit ([] : List LitD), dI 1]))
 (sel (!decide (a0.goal = 0))
 (inb a0.var a1.length = true ∧ inb a0.var a0.vars.length = true ∧ sel (decide ((at' .int a1 a0.var.toNat) < ((at' .var a0.vars a0.var.toNat).lo)))
 (R (.tup [.sl .lit ([] : List LitD), dI 3]))
 (inb a0.var a1.length = true ∧ inb a0.var a0.vars.length = true ∧ sel (decide (((at' .var a0.vars a0.var.toNat).hi) < (at' .int a1 a0.var.toNat)))
 (R (.tup [.sl .lit ([] : List LitD), dI 3]))
 (Call1 Tryz.prog zgc [dM a0, .sl .int a1] (.list .lit) fun b2 =>
 R (.tup [.sl .lit b2, dI 0]))))
 (Call1 Tryz.prog zgc [dM a0, .sl .int a1] (.list .lit) fun b3 =>
 R (.tup [.sl .lit b3, dI 0]))))) := by kernel_rfl
theorem ztx (a0 : MdlD) (a1 : List Int) : SatI zbn Tryz.f18 zRc [dM a0, .sl .int a1] := satD Tryz.func18 (by kernel_rfl) Tryz.ntmps18 rfl
def zcn : Ann := { own := [4, 22], live := [], n := 68, nils := [], pubs := [], first := true }
theorem zux (a0 : MdlD) (a1 : Int) (R : D → Prop) : FD zcn Tryz.f23 [dM a0, dI a1] R =
 (Call1 Tryz.prog zae [dM a0, dI a1] .int fun s1 =>
 sel (!decide (s1 = 0))
 (R (.tup [.agg [dI 0, .sl .int ([] : List Int), .sl .step ([] : List StepD)], dI s1]))
 (∃ n2 : MdlD, ∃ n3 : Int, SatH Tryz.prog zbe [dM a0, dI a1] [] (.ptr 3000 0) [(3000, .cells [.sl .var n2.vars, .sl .con n2.cons, dI n2.goal, dI n2.var, .sl (.list .lit) ([] : List (List LitD)), dI n3, .nil, .nil, .own 3001]), (3001, .mp .str .int ([] : List (ByteArray × Int)))] ∧
 ∃ r4 : Int, ∃ r5 : List Int, ∃ r6 : Bool, ∃ r7 : List (List LitD), ∃ r8 : Int, ∃ r9 : List (List LitD), ∃ r10 : List StepD, ∃ r11 : List (ByteArray × Int), SatH Tryz.prog zde [.ptr 1000 0] [(1000, .cells [.ptr 1001 0, .slN .int ([] : List Int) true]), (1001, .cells [.sl .var n2.vars, .sl .con n2.cons, dI n2.goal, dI n2.var, .sl (.list .lit) ([] : List (List LitD)), dI n3, .own 2000, .own 2001, .own 1002]), (2000, .row 47 (.list .lit) ([] : List (List LitD))), (2001, .row 71 .step ([] : List StepD)), (1002, .mp .str .int ([] : List (ByteArray × Int)))] (dI r4) [(1000, .cells [.ptr 1001 0, .slN .int r5 r6]), (1001, .cells [.sl .var n2.vars, .sl .con n2.cons, dI n2.goal, dI n2.var, .sl (.list .lit) r7, dI r8, .own 2000, .own 2001, .own 1002]), (2000, .row 47 (.list .lit) r9), (2001, .row 71 .step r10), (1002, .mp .str .int r11)] ∧
 sel (decide (a0.goal = 0))
 (sel (decide (r4 = 1))
 (R (.tup [.agg [dI r4, .sl .int r5, .sl .step ([] : List StepD)], dI 0]))
 (∃ p12 : List StepD, ∃ p13 : Bool, SatH Tryz.prog zfc [.ptr 1000 0] [(1000, .cells [.sl .var n2.vars, .sl .con n2.cons, dI n2.goal, dI n2.var, .sl (.list .lit) r7, dI r8, .own 2000, .own 2001, .own 1001]), (2000, .row 47 (.list .lit) r9), (2001, .row 71 .step r10), (1001, .mp .str .int r11)] (.tup [.sl .step p12, dB p13]) [(1000, .cells [.sl .var n2.vars, .sl .con n2.cons, dI n2.goal, dI n2.var, .sl (.list .lit) r7, dI r8, .own 2000, .sl .step p12, .own 1001]), (2000, .row 47 (.list .lit) r9), (1001, .mp .str .int r11)] ∧
 sel (decide (r4 = 3))
 (R (.tup [.agg [dI 3, .sl .int ([] : List Int), .sl .step ([] : List StepD)], dI 0]))
 (sel (!p13)
 (R (.tup [.agg [dI 3, .sl .int ([] : List Int), .sl .step ([] : List StepD)], dI 0]))
 (sel r6
 (R (.tup [.agg [dI 2, .sl .int ([] : List Int), .sl .step p12], dI 0]))
 (R (.tup [.agg [dI 1, .sl .int r5, .sl .step p12], dI 0]))))))
 (∃ p14 : List StepD, ∃ p15 : Bool, SatH Tryz.prog zfc [.ptr 1000 0] [(1000, .cells [.sl .var n2.vars, .sl .con n2.cons, dI n2.goal, dI n2.var, .sl (.list .lit) r7, dI r8, .own 2000, .own 2001, .own 1001]), (2000, .row 47 (.list .lit) r9), (2001, .row 71 .step r10), (1001, .mp .str .int r11)] (.tup [.sl .step p14, dB p15]) [(1000, .cells [.sl .var n2.vars, .sl .con n2.cons, dI n2.goal, dI n2.var, .sl (.list .lit) r7, dI r8, .own 2000, .sl .step p14, .own 1001]), (2000, .row 47 (.list .lit) r9), (1001, .mp .str .int r11)] ∧
 sel (decide (r4 = 3))
 (R (.tup [.agg [dI 3, .sl .int ([] : List Int), .sl .step ([] : List StepD)], dI 0]))
 (sel (!p15)
 (R (.tup [.agg [dI 3, .sl .int ([] : List Int), .sl .step ([] : List StepD)], dI 0]))
 (sel r6
 (R (.tup [.agg [dI 2, .sl .int ([] : List Int), .sl .step p14], dI 0]))
 (R (.tup [.agg [dI 1, .sl .int r5, .sl .step p14], dI 0]))))))) := by kernel_rfl
theorem zvx (a0 : MdlD) (a1 : Int) : SatI zcn Tryz.f23 zSc [dM a0, dI a1] := satD Tryz.func23 (by kernel_rfl) Tryz.ntmps23 rfl
def zdn : Ann := { own := [], live := [], n := 31, nils := [], pubs := [], first := true }
theorem zwx (a0 : MdlD) (a1 : List Int) (R : D → Prop) : FD zdn Tryz.f42 [dM a0, .sl .int a1] R =
 (sel (decide (a0.goal = 1))
 (inb a0.var a1.length = true ∧ R (.sl .lit ([(⟨a0.var, 1, w64 ((at' .int a1 a0.var.toNat) - 1)⟩ : LitD)])))
 (sel (decide (a0.goal = 2))
 (inb a0.var a1.length = true ∧ R (.sl .lit ([(⟨a0.var, 2, w64 ((at' .int a1 a0.var.toNat) + 1)⟩ : LitD)])))
 (R (.sl .lit ([] : List LitD))))) := by kernel_rfl
theorem zxx (a0 : MdlD) (a1 : List Int) : SatI zdn Tryz.f42 zgc [dM a0, .sl .int a1] := satD Tryz.func42 (by kernel_rfl) Tryz.ntmps42 rfl
def zpi : Ann := { own := [], live := [(0, ([0], [1000, 1001, 1002, 2000, 2001]))], n := 51, nils := [], pubs := [], first := true }
def zFg (R : D → List (Nat × HObj) → Prop) (n0 : Nat) (c1 : List Int) (c2 : Bool) (c3 : List VarD) (c4 : List ConD) (c5 : Int) (c6 : Int) (c7 : List (List LitD)) (c8 : Int) (m9 : List (ByteArray × Int)) (l10 : List (List LitD)) (l11 : List StepD) : Prop := LP zpi Tryz.f43 [1, 0, 0] 0 n0 ⟨[(0, .ptr 1000 0)], [(1000, .cells [.ptr 1001 0, .slN .int c1 c2]), (1001, .cells [.sl .var c3, .sl .con c4, dI c5, dI c6, .sl (.list .lit) c7, dI c8, .own 2000, .own 2001, .own 1002]), (1002, .mp .str .int m9), (2000, .row 47 (.list .lit) l10), (2001, .row 71 .step l11)]⟩ (blockK 0 (eH Tryz.f43 [.ptr 1000 0] false R))
theorem zyx (R : D → List (Nat × HObj) → Prop) (n0 : Nat) (c1 : List Int) (c2 : Bool) (c3 : List VarD) (c4 : List ConD) (c5 : Int) (c6 : Int) (c7 : List (List LitD)) (c8 : Int) (m9 : List (ByteArray × Int)) (l10 : List (List LitD)) (l11 : List StepD) : zFg R (n0 + 1) c1 c2 c3 c4 c5 c6 c7 c8 m9 l10 l11 =
 (∃ g12 : Int, ∃ g13 : List (List LitD), ∃ g14 : List StepD, ∃ g15 : List (ByteArray × Int), ∃ g16 : List Int, ∃ g17 : Int, SatH Tryz.prog zce [.ptr 1000 0] [(1000, .cells [.sl .var c3, .sl .con c4, dI c5, dI c6, .sl (.list .lit) c7, dI c8, .own 2000, .own 2001, .own 1001]), (2000, .row 47 (.list .lit) l10), (2001, .row 71 .step l11), (1001, .mp .str .int m9)] (.tup [.sl .int g16, dI g17]) [(1000, .cells [.sl .var c3, .sl .con c4, dI c5, dI c6, .sl (.list .lit) c7, dI g12, .own 2000, .own 2001, .own 1001]), (2000, .row 47 (.list .lit) g13), (2001, .row 71 .step g14), (1001, .mp .str .int g15)] ∧
 sel (decide (g17 = 3))
 (R (dI g17) [(1000, .cells [.ptr 1001 0, .slN .int c1 c2]), (1001, .cells [.sl .var c3, .sl .con c4, dI c5, dI c6, .sl (.list .lit) c7, dI g12, .own 2000, .own 2001, .own 1002]), (2000, .row 47 (.list .lit) g13), (2001, .row 71 .step g14), (1002, .mp .str .int g15)])
 (sel (decide (g17 = 2))
 (R (dI g17) [(1000, .cells [.ptr 1001 0, .slN .int c1 c2]), (1001, .cells [.sl .var c3, .sl .con c4, dI c5, dI c6, .sl (.list .lit) c7, dI g12, .own 2000, .own 2001, .own 1002]), (2000, .row 47 (.list .lit) g13), (2001, .row 71 .step g14), (1002, .mp .str .int g15)])
 (g16 ≠ [] ∧ sel (decide (c5 = 0))
 (R (dI g17) [(1000, .cells [.ptr 1001 0, .slN .int g16 false]), (1001, .cells [.sl .var c3, .sl .con c4, dI c5, dI c6, .sl (.list .lit) c7, dI g12, .own 2000, .own 2001, .own 1002]), (2000, .row 47 (.list .lit) g13), (2001, .row 71 .step g14), (1002, .mp .str .int g15)])
 (Call1 Tryz.prog zgc [.agg [.sl .var c3, .sl .con c4, dI c5, dI c6], .sl .int g16] (.list .lit) fun b18 =>
 zFg R n0 g16 false c3 c4 c5 c6 ([b18]) g12 g15 g13 g14)))) := by kernel_rfl
theorem zzx (mvs0 : List VarD) (mcs0 : List ConD) (goal0 : Int) (mvar0 : Int) (given0 : List (List LitD)) (fuel0 : Int) (learned0 : List (List LitD)) (steps0 : List StepD) (met0 : List (ByteArray × Int)) (best0 : List Int) (bnil0 : Bool) (R : D → List (Nat × HObj) → Prop) : FH zpi Tryz.f43 [.ptr 1000 0] [(1000, .cells [.ptr 1001 0, .slN .int best0 bnil0]), (1001, .cells [.sl .var mvs0, .sl .con mcs0, dI goal0, dI mvar0, .sl (.list .lit) given0, dI fuel0, .own 2000, .own 2001, .own 1002]), (2000, .row 47 (.list .lit) learned0), (2001, .row 71 .step steps0), (1002, .mp .str .int met0)] [.ptr 1000 0] false R =
 (∃ n0, zFg R n0 best0 bnil0 mvs0 mcs0 goal0 mvar0 given0 fuel0 met0 learned0 steps0) := by kernel_rfl
theorem zAx (mvs0 : List VarD) (mcs0 : List ConD) (goal0 : Int) (mvar0 : Int) (given0 : List (List LitD)) (fuel0 : Int) (learned0 : List (List LitD)) (steps0 : List StepD) (met0 : List (ByteArray × Int)) (best0 : List Int) (bnil0 : Bool) : SatHI zpi Tryz.f43 zde [.ptr 1000 0] [(1000, .cells [.ptr 1001 0, .slN .int best0 bnil0]), (1001, .cells [.sl .var mvs0, .sl .con mcs0, dI goal0, dI mvar0, .sl (.list .lit) given0, dI fuel0, .own 2000, .own 2001, .own 1002]), (2000, .row 47 (.list .lit) learned0), (2001, .row 71 .step steps0), (1002, .mp .str .int met0)] [.ptr 1000 0] false := satHD Tryz.func43 (by kernel_rfl) Tryz.ntmps43 rfl
end Go.Proofs.YtajnbkhgnppckaaGreatDoor
