/- What the functions of a package do, as equations of plain propositions: printed by a program that carries the code out on symbols. -/
import Derived.Test.YtogdmcebojiojaaGreatDoorWEv
namespace Go.Proofs.YtogdmcebojiojaaGreatDoor
open Go.RowKit
set_option linter.unusedVariables false
set_option maxRecDepth 100000
/-! ### cordon/cordonlaw.TextPrints -/
def cordonlaw_TextPrints_A : Ann := { own := [], live := [], n := 29, nils := [], pubs := [] }
theorem cordonlaw_TextPrints_eq (a0 : MdlD) (R : D → Prop) : FD cordonlaw_TextPrints_A Tryz.f4 [dM a0] R =
 (Call2 Tryz.prog f_text_Print [dM a0] .str .int fun t1 t2 =>
 Call1 Tryz.prog f_cordonref_CheckModel [dM a0] .int fun c3 =>
 sel (decide (c3 = 0))
 (Call1 Tryz.prog f_cordonref_PrintOf [dM a0] .str fun c4 =>
 Call1 Tryz.prog f_cordonlaw_textBegun [] .bool fun c5 =>
 sel c5
 (sel (decide (t2 = c3))
 (R (dB (decide (t1 = c4))))
 (R (dB false)))
 (R (dB false)))
 (Call1 Tryz.prog f_cordonlaw_textBegun [] .bool fun c6 =>
 sel c6
 (sel (decide (t2 = c3))
 (R (dB (decide (t1 = (⟨#[]⟩ : ByteArray)))))
 (R (dB false)))
 (R (dB false)))) := by kernel_rfl
theorem cordonlaw_TextPrints_sat (a0 : MdlD) : SatI cordonlaw_TextPrints_A Tryz.f4 f_cordonlaw_TextPrints [dM a0] := satD Tryz.func4 (by kernel_rfl) Tryz.ntmps4 rfl
/-! ### cordon/cordonlaw.textBegun -/
def cordonlaw_textBegun_A : Ann := { own := [3], live := [], n := 32, nils := [], pubs := [] }
theorem cordonlaw_textBegun_eq  (R : D → Prop) : FD cordonlaw_textBegun_A Tryz.f12 [] R =
 (Call1 Tryz.prog f_cordonlaw_two [] .mdl fun c1 =>
 Call2 Tryz.prog f_text_Print [dM c1] .str .int fun t2 t3 =>
 Call3 Tryz.prog f_text_Parse [.str t2] .mdl .int .int fun t4 t5 t6 =>
 sel (decide (t3 = 0))
 (sel (decide (t6 = 0))
 (sel (decide (t2 = (⟨#[118, 97, 114, 32, 120, 58, 32, 48, 46, 46, 50, 59, 10, 118, 97, 114, 32, 121, 58, 32, 48, 46, 46, 50, 59, 10, 99, 111, 110, 32, 108, 101, 32, 91, 49, 44, 32, 45, 49, 93, 32, 91, 120, 44, 32, 121, 93, 32, 45, 49, 59, 10, 115, 111, 108, 118, 101, 32, 108, 101, 97, 115, 116, 32, 121, 59, 10]⟩ : ByteArray)))
 (Call1 Tryz.prog f_cordonlaw_two [] .mdl fun c7 =>
 Call1 Tryz.prog f_cordonref_SameModel [dM t4, dM c7] .bool fun c8 =>
 R (dB c8))
 (R (dB false)))
 (R (dB false)))
 (R (dB false))) := by kernel_rfl
theorem cordonlaw_textBegun_sat  : SatI cordonlaw_textBegun_A Tryz.f12 f_cordonlaw_textBegun [] := satD Tryz.func12 (by kernel_rfl) Tryz.ntmps12 rfl
/-! ### cordon/cordonlaw.two -/
def cordonlaw_two_A : Ann := { own := [0], live := [], n := 9, nils := [], pubs := [] }
theorem cordonlaw_two_eq  (R : D → Prop) : FD cordonlaw_two_A Tryz.f54 [] R =
 (R (.agg [.sl .var ([(⟨(⟨#[120]⟩ : ByteArray), 0, 2⟩ : VarD), (⟨(⟨#[121]⟩ : ByteArray), 0, 2⟩ : VarD)]), .sl .con ([(⟨1, [0, 1], [1, -1], -1, ([] : List (List Int)), ([] : List LitD)⟩ : ConD)]), dI 1, dI 1])) := by kernel_rfl
theorem cordonlaw_two_sat  : SatI cordonlaw_two_A Tryz.f54 f_cordonlaw_two [] := satD Tryz.func54 (by kernel_rfl) Tryz.ntmps54 rfl
end Go.Proofs.YtogdmcebojiojaaGreatDoor
