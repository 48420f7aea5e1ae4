/- The law TextPrints: both printers answer alike; what must be in any case. -/
import Derived.Test.YtogdmcebojiojaaGreatDoorMR
import Derived.Test.YtogdmcebojiojaaGreatDoorPText9
namespace Go.Proofs.YtogdmcebojiojaaGreatDoor
open Go.RowKit
set_option linter.unusedVariables false
set_option linter.unusedSimpArgs false

theorem cordonlaw_TextPrints_ok (m : MdlD) : Sat Tryz.prog f_cordonlaw_TextPrints [dM m] (dB true) :=
  cordonlaw_TextPrints_sat m fun ok => by
    rw [cordonlaw_TextPrints_eq]
    refine call2 (t := .str) (u := .int) (text_Print_ok m) (call1 (t := .int) (cordonref_CheckModel_ok m) ?_)
    unfold printE
    by_cases h : checkM m = 0
    · rw [if_pos h]
      refine dt h (call1 (t := .str) (cordonref_PrintOf_ok h) (call1 (t := .bool) textBegun_ok (bt rfl (dt rfl ?_))))
      rw [decide_eq_true rfl]
    · rw [if_neg h]
      refine df h (call1 (t := .bool) textBegun_ok (bt rfl (dt rfl ?_)))
      rw [decide_eq_true rfl]
end Go.Proofs.YtogdmcebojiojaaGreatDoor
