/- The law TextBack: what is printed reads back, and what is read prints and reads back; what must be in any case. -/
import Derived.Test.YtogdmcebojiojaaGreatDoorQBack5
import Derived.Test.YtogdmcebojiojaaGreatDoorPText10
namespace Go.Proofs.YtogdmcebojiojaaGreatDoor
open Go.RowKit
set_option linter.unusedVariables false
set_option linter.unusedSimpArgs false

theorem cordonlaw_TextBack_ok (m : MdlD) (s : ByteArray) : Sat Tryz.prog f_cordonlaw_TextBack [dM m, .str s] (dB true) :=
  cordonlaw_TextBack_sat m s fun ok => by
    rw [cordonlaw_TextBack_eq]
    have tl : ∀ {R : D → Prop}, R (dB true) → Call3 Tryz.prog f_text_Parse [.str s] .mdl .int .int fun t8 t9 t10 =>
        sel (!decide (t10 = 0))
        (R (dB (decide ((w64 ((t8.vars.length : Int) + (t8.cons.length : Int))) = 0))))
        (Call2 Tryz.prog f_text_Print [dM t8] .str .int fun t11 t12 =>
        sel (!decide (t12 = 0))
        (R (dB false))
        (Call3 Tryz.prog f_text_Parse [.str t11] .mdl .int .int fun t13 t14 t15 =>
        sel (decide (4000 < (t11.size : Int)))
        (R (dB true))
        (sel (decide (t15 = 0))
        (Call1 Tryz.prog f_cordonref_SameModel [dM t8, dM t13] .bool fun c16 =>
        R (dB c16))
        (R (dB false))))) := fun {R} hR => by
      refine call3 (t := .mdl) (u := .int) (v := .int) (text_Parse_ok s) ?_
      rcases parse_right s with ⟨h1, h2⟩ | ⟨h1, h2⟩
      · refine dnf h1 (call2 (t := .str) (u := .int) (text_Print_ok _) (dnf h2 (call3 (t := .mdl) (u := .int) (v := .int) (text_Parse_ok _) ?_)))
        by_cases hz : 4000 < ((printE (parseS s).1).size : Int)
        · exact dt hz hR
        · refine df hz ?_
          have e : printE (parseS s).1 = printS (parseS s).1 := by unfold printE; rw [if_pos h2]
          rw [e] at hz ⊢
          rw [parse_print h2 (by omega)]
          refine dt rfl (call1 (t := .bool) (cordonref_SameModel_ok _ _) ?_)
          rw [decide_eq_true rfl]; exact hR
      · refine dnt h1 ?_
        rw [h2]; exact hR
    refine call1 (t := .bool) textBegun_ok (bnf rfl (call2 (t := .str) (u := .int) (text_Print_ok m) ?_))
    by_cases hm : checkM m = 0
    · refine dt hm ?_
      have e : printE m = printS m := by unfold printE; rw [if_pos hm]
      rw [e]
      by_cases hz : ((printS m).size : Int) ≤ 4000
      · refine dt hz (call3 (t := .mdl) (u := .int) (v := .int) (text_Parse_ok _) ?_)
        rw [parse_print hm (by omega)]
        refine dnf rfl (call1 (t := .bool) (cordonref_SameModel_ok _ _) ?_)
        rw [decide_eq_true rfl]
        exact bnf rfl (tl (R := fun d => d = dB true) rfl)
      · exact df hz (tl (R := fun d => d = dB true) rfl)
    · exact df hm (tl (R := fun d => d = dB true) rfl)
end Go.Proofs.YtogdmcebojiojaaGreatDoor
