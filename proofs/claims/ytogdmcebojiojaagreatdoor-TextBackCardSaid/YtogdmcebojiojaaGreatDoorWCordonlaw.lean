/- What the functions of a package do, as equations of plain propositions: printed by a program that carries the code out on symbols. -/
import Derived.Test.YtogdmcebojiojaaGreatDoorWEv
namespace Go.Proofs.YtogdmcebojiojaaGreatDoor
open Go.RowKit
set_option linter.unusedVariables false
set_option maxRecDepth 100000
/-! ### cordon/cordonlaw.TextBack -/
def cordonlaw_TextBack_A : Ann := { own := [7, 10, 12], live := [], n := 83, nils := [], pubs := [] }
theorem cordonlaw_TextBack_eq (a0 : MdlD) (a1 : ByteArray) (R : D → Prop) : FD cordonlaw_TextBack_A Tryz.f5 [dM a0, .str a1] R =
 (Call1 Tryz.prog f_cordonlaw_textBegun [] .bool fun c1 =>
 sel (!c1)
 (R (dB false))
 (Call2 Tryz.prog f_text_Print [dM a0] .str .int fun t2 t3 =>
 sel (decide (t3 = 0))
 (sel (decide ((t2.size : Int) ≤ 4000))
 (Call3 Tryz.prog f_text_Parse [.str t2] .mdl .int .int fun t4 t5 t6 =>
 sel (!decide (t6 = 0))
 (R (dB false))
 (Call1 Tryz.prog f_cordonref_SameModel [dM a0, dM t4] .bool fun c7 =>
 sel (!c7)
 (R (dB false))
 (Call3 Tryz.prog f_text_Parse [.str a1] .mdl .int .int fun t8 t9 t10 =>
 sel (!decide (t10 = 0))
 (R (dB (decide ((w64 ((t8.vars.length : Int) + (t8.cons.length : Int))) = 0))))
 (Call2 Tryz.prog f_text_Print [dM t8] .str .int fun t11 t12 =>
 sel (!decide (t12 = 0))
 (R (dB false))
 (Call3 Tryz.prog f_text_Parse [.str t11] .mdl .int .int fun t13 t14 t15 =>
 sel (decide (4000 < (t11.size : Int)))
 (R (dB true))
 (sel (decide (t15 = 0))
 (Call1 Tryz.prog f_cordonref_SameModel [dM t8, dM t13] .bool fun c16 =>
 R (dB c16))
 (R (dB false))))))))
 (Call3 Tryz.prog f_text_Parse [.str a1] .mdl .int .int fun t17 t18 t19 =>
 sel (!decide (t19 = 0))
 (R (dB (decide ((w64 ((t17.vars.length : Int) + (t17.cons.length : Int))) = 0))))
 (Call2 Tryz.prog f_text_Print [dM t17] .str .int fun t20 t21 =>
 sel (!decide (t21 = 0))
 (R (dB false))
 (Call3 Tryz.prog f_text_Parse [.str t20] .mdl .int .int fun t22 t23 t24 =>
 sel (decide (4000 < (t20.size : Int)))
 (R (dB true))
 (sel (decide (t24 = 0))
 (Call1 Tryz.prog f_cordonref_SameModel [dM t17, dM t22] .bool fun c25 =>
 R (dB c25))
 (R (dB false)))))))
 (Call3 Tryz.prog f_text_Parse [.str a1] .mdl .int .int fun t26 t27 t28 =>
 sel (!decide (t28 = 0))
 (R (dB (decide ((w64 ((t26.vars.length : Int) + (t26.cons.length : Int))) = 0))))
 (Call2 Tryz.prog f_text_Print [dM t26] .str .int fun t29 t30 =>
 sel (!decide (t30 = 0))
 (R (dB false))
 (Call3 Tryz.prog f_text_Parse [.str t29] .mdl .int .int fun t31 t32 t33 =>
 sel (decide (4000 < (t29.size : Int)))
 (R (dB true))
 (sel (decide (t33 = 0))
 (Call1 Tryz.prog f_cordonref_SameModel [dM t26, dM t31] .bool fun c34 =>
 R (dB c34))
 (R (dB false)))))))) := by kernel_rfl
theorem cordonlaw_TextBack_sat (a0 : MdlD) (a1 : ByteArray) : SatI cordonlaw_TextBack_A Tryz.f5 f_cordonlaw_TextBack [dM a0, .str a1] := satD Tryz.func5 (by kernel_rfl) Tryz.ntmps5 rfl
/-! ### cordon/cordonlaw.textBegun -/
def cordonlaw_textBegun_A : Ann := { own := [3], live := [], n := 32, nils := [], pubs := [] }
theorem cordonlaw_textBegun_eq  (R : D → Prop) : FD cordonlaw_textBegun_A Tryz.f12 [] R =
 (Call1 Tryz.prog f_cordonlaw_two [] .mdl fun c1 =>
 Call2 Tryz.prog f_text_Print [dM c1] .str .int fun t2 t3 =>
 Call3 Tryz.prog f_text_Parse [.str t2] .mdl .int .int fun t4 t5 t6 =>
 sel (decide (t3 = 0))
 (sel (decide (t6 = 0))
 (sel (decide (t2 = (⟨#[118, 97, 114, 32, 120, 58, 32, 48, 46, 46, 50, 59, 10, 118, 97, 114, 32, 121, 58, 32, 48, 46, 46, 50, 59, 10, 99, 111, 110, 32, 108, 101, 32, 91, 49, 44, 32, 45, 49, 93, 32, 91, 120, 44, 32, 121, 93, 32, 45, 49, 59, 10, 115, 111, 108, 118, 101, 32, 108, 101, 97, 115, 116, 32, 121, 59, 10]⟩ : ByteArray)))
 (Call1 Tryz.prog f_cordonlaw_two [] .mdl fun c7 =>
 Call1 Tryz.prog f_cordonref_SameModel [dM t4, dM c7] .bool fun c8 =>
 R (dB c8))
 (R (dB false)))
 (R (dB false)))
 (R (dB false))) := by kernel_rfl
theorem cordonlaw_textBegun_sat  : SatI cordonlaw_textBegun_A Tryz.f12 f_cordonlaw_textBegun [] := satD Tryz.func12 (by kernel_rfl) Tryz.ntmps12 rfl
/-! ### cordon/cordonlaw.two -/
def cordonlaw_two_A : Ann := { own := [0], live := [], n := 9, nils := [], pubs := [] }
theorem cordonlaw_two_eq  (R : D → Prop) : FD cordonlaw_two_A Tryz.f54 [] R =
 (R (.agg [.sl .var ([(⟨(⟨#[120]⟩ : ByteArray), 0, 2⟩ : VarD), (⟨(⟨#[121]⟩ : ByteArray), 0, 2⟩ : VarD)]), .sl .con ([(⟨1, [0, 1], [1, -1], -1, ([] : List (List Int)), ([] : List LitD)⟩ : ConD)]), dI 1, dI 1])) := by kernel_rfl
theorem cordonlaw_two_sat  : SatI cordonlaw_two_A Tryz.f54 f_cordonlaw_two [] := satD Tryz.func54 (by kernel_rfl) Tryz.ntmps54 rfl
end Go.Proofs.YtogdmcebojiojaaGreatDoor
