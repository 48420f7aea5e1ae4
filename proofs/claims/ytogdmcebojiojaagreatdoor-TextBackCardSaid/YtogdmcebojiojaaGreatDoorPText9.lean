/- The law TextParses: both parsers answer alike; what must be in any case. -/
import Derived.Test.YtogdmcebojiojaaGreatDoorMS
import Derived.Test.YtogdmcebojiojaaGreatDoorMR
import Derived.Test.YtogdmcebojiojaaGreatDoorWCordonlaw
namespace Go.Proofs.YtogdmcebojiojaaGreatDoor
open Go.RowKit
set_option linter.unusedVariables false
set_option linter.unusedSimpArgs false

def twoT : MdlD := ⟨[⟨⟨#[120]⟩, 0, 2⟩, ⟨⟨#[121]⟩, 0, 2⟩], [⟨1, [0, 1], [1, -1], -1, [], []⟩], 1, 1⟩
theorem twoT_ok : Sat Tryz.prog f_cordonlaw_two [] (toD .mdl twoT) := cordonlaw_two_sat fun ok => by rw [cordonlaw_two_eq]; rfl
def begunT9 : ByteArray := ⟨#[118, 97, 114, 32, 120, 58, 32, 48, 46, 46, 50, 59, 10, 118, 97, 114, 32, 121, 58, 32, 48, 46, 46, 50, 59, 10, 99, 111, 110, 32, 108, 101, 32, 91, 49, 44, 32, 45, 49, 93, 32, 91, 120, 44, 32, 121, 93, 32, 45, 49, 59, 10, 115, 111, 108, 118, 101, 32, 108, 101, 97, 115, 116, 32, 121, 59, 10]⟩
theorem twoT_check : checkM twoT = 0 := by decide +kernel
theorem twoT_print : printE twoT = begunT9 := by
  unfold printE
  rw [if_pos twoT_check]
  decide +kernel
theorem twoT_parse : parseS begunT9 = (twoT, 0, 0) := by decide +kernel
theorem textBegun_ok : Sat Tryz.prog f_cordonlaw_textBegun [] (dB true) :=
  cordonlaw_textBegun_sat fun ok => by
    rw [cordonlaw_textBegun_eq]
    refine call1 (t := .mdl) twoT_ok (call2 (t := .str) (u := .int) (text_Print_ok twoT) ?_)
    rw [twoT_print, twoT_check]
    refine call3 (t := .mdl) (u := .int) (v := .int) (text_Parse_ok begunT9) ?_
    rw [twoT_parse]
    refine dt rfl (dt rfl (dt rfl (call1 (t := .mdl) twoT_ok (call1 (t := .bool) (cordonref_SameModel_ok twoT twoT) ?_))))
    rw [decide_eq_true rfl]
end Go.Proofs.YtogdmcebojiojaaGreatDoor
