/- The law that tests of a model and scopes are as the document says. -/
import Derived.Test.YtonkbljpcgadlaaPModel3
namespace Go.Proofs.Ytonkbljpcgadlaa
open Go.RowKit
set_option linter.unusedVariables false
set_option linter.unusedSimpArgs false

theorem two_mholds : Sat Try.prog f_model_Holds [dM twoM, dI 0, .sl .int [0, 1]] (.tup [dB true, dI 0]) := by
  have h := model_Holds_ok twoM 0 [0, 1]
  rwa [show holdsE twoM 0 [0, 1] = 0 by kernel_rfl, show orB 0 (trueC (conAt twoM 0) [0, 1]) = true by kernel_rfl] at h
theorem two_all : Sat Try.prog f_model_All [dM twoM, .sl .int [2, 1]] (.tup [dB false, dI 0]) := by
  have h := model_All_ok twoM [2, 1]
  rwa [show allE twoM [2, 1] = 0 by kernel_rfl, show orB 0 (wholeM twoM [2, 1]) = false by kernel_rfl] at h
theorem two_scope : Sat Try.prog f_model_Scope [dM twoM, dI 0] (.tup [.sl .int [0, 1], dI 0]) := by
  have h := model_Scope_ok twoM 0
  rwa [show atE twoM 0 = 0 by kernel_rfl, show orIs 0 (scopeC (conAt twoM 0) twoM.vars.length) = [0, 1] by kernel_rfl] at h
theorem two_mcheck : Sat Try.prog f_model_Check [dM twoM] (dI 0) := by
  have h := model_Check_ok twoM
  rwa [show checkM twoM = 0 by kernel_rfl] at h
theorem cordonlaw_modelBegun_ok : Sat Try.prog f_cordonlaw_modelBegun [] (dB true) :=
  cordonlaw_modelBegun_sat fun ok => by
    rw [cordonlaw_modelBegun_eq]
    exact call1 cordonlaw_two_ok (call2 (t := .bool) (u := .int) two_mholds (call1 cordonlaw_two_ok (call2 (t := .bool) (u := .int) two_all (call1 cordonlaw_two_ok (call2 (t := .list .int) (u := .int) two_scope (call1 cordonlaw_two_ok (call1 two_mcheck (call1 (cordonref_SameInts_ok _ _) rfl))))))))
theorem mt_tail {m : MdlD} {l l' : List Int} {a b c3 : Int} (h1 : checkM m = c3) (h2 : a = b) (h3 : l = l') :
    Call1 Try.prog f_cordonlaw_modelBegun [] .bool fun c5 => sel c5
      (Call1 Try.prog f_model_Check [dM m] .int fun m6 => sel (decide (m6 = c3)) (sel (decide (a = b))
        (Call1 Try.prog f_cordonref_SameInts [.sl .int l, .sl .int l'] .bool fun c7 => D.bool c7 = dB true) (D.bool false = dB true)) (D.bool false = dB true)) (D.bool false = dB true) := by
  refine call1 cordonlaw_modelBegun_ok (call1 (model_Check_ok m) (dt h1 (dt h2 (call1 (cordonref_SameInts_ok _ _) ?_))))
  rw [decide_eq_true h3]
theorem cordonlaw_ModelTells_ok (m : MdlD) (con : Int) : Sat Try.prog f_cordonlaw_ModelTells [dM m, dI con] (dB true) :=
  cordonlaw_ModelTells_sat m con fun ok => by
    rw [cordonlaw_ModelTells_eq]
    refine call2 (t := .list .int) (u := .int) (model_Scope_ok m con) (call1 (cordonref_CheckModel_ok m) ?_)
    by_cases h : checkM m = 0
    · refine dt h ?_
      by_cases h1 : con < 0
      · have e : atE m con = 5 := by rw [atE, if_neg (not_not_intro h), if_pos (.inl h1)]
        exact dt h1 (df (by decide) (mt_tail rfl e (by rw [e]; rfl)))
      · refine df h1 ?_
        by_cases h2 : (m.cons.length : Int) ≤ con
        · have e : atE m con = 5 := by rw [atE, if_neg (not_not_intro h), if_pos (.inr h2)]
          exact dt h2 (df (by decide) (mt_tail rfl e (by rw [e]; rfl)))
        · have e : atE m con = 0 := by rw [atE, if_neg (not_not_intro h), if_neg (by omega)]
          exact df h2 (dt h ⟨inb_iff.2 (by omega), call1 (cordonref_ScopeOf_ok m (conAt_right e)) (mt_tail rfl (e.trans h.symm) (orIs0 e))⟩)
    · have e : atE m con = checkM m := if_pos h
      exact df h (df h (mt_tail rfl e (orIs1 (by rw [e]; exact h))))
end Go.Proofs.Ytonkbljpcgadlaa
