/- The law that all calls of clauses answer as the document says. -/
import Derived.Test.YtonkbljpcgadlaaGreatPRef1
namespace Go.Proofs.YtonkbljpcgadlaaGreat
open Go.RowKit
set_option linter.unusedVariables false
set_option linter.unusedSimpArgs false

theorem ct_rest {m : MdlD} {s : List (List Int)} {c : List LitD} {w : Int} {u d : List (List Int)} (hw : rdyC m s c = w) (hu : orS (rdyC m s c) (unitC s c) = orS w u) (hd : orS (rdyC m s c) (denyC s c) = orS w d) : (Call1 Tryz.prog f_cordonlaw_storeIs [dS (orS (rdyC m s c) (unitC s c)), dI (rdyC m s c), dI w, dS u] .bool fun c16 => sel c16 (Call1 Tryz.prog f_cordonlaw_storeIs [dS (orS (rdyC m s c) (denyC s c)), dI (rdyC m s c), dI w, dS d] .bool fun c17 => D.bool c17 = dB true) (D.bool false = dB true)) := by
  refine call1 (cordonlaw_storeIs_ok _ _ _ _) (bt (isS_same hw hu) (call1 (cordonlaw_storeIs_ok _ _ _ _) ?_))
  rw [isS_same hw hd]
theorem ct_tail {m : MdlD} {c : List LitD} {vs : List Int} {v x : Int} {Z : Prop} (hv : chkC m c = v) (hx : holdE m c vs = x) (ho : x = 0 → (∀ l ∈ c, litE m.vars.length l = 0) ∧ vs.length = m.vars.length) (z : Z) : (Call1 Tryz.prog f_cordonlaw_clauseBegun [] .bool fun c13 => sel c13 (Call1 Tryz.prog f_clause_Check [dM m, .sl .lit c] .int fun c14 => sel (decide (c14 = v)) (sel (decide (holdE m c vs = x)) (sel (decide (x = 0)) (Call1 Tryz.prog f_cordonref_ClauseHolds [.sl .lit c, .sl .int vs] .bool fun c15 => sel (orB (holdE m c vs) (holdsC c vs) == c15) Z (D.bool false = dB true)) (sel (orB (holdE m c vs) (holdsC c vs) == false) Z (D.bool false = dB true))) (D.bool false = dB true)) (D.bool false = dB true)) (D.bool false = dB true)) := by
  refine call1 cordonlaw_clauseBegun_ok (call1 (clause_Check_ok m c) (dt hv (dt hx ?_)))
  by_cases h : x = 0
  · refine dt h (call1 (cordonref_ClauseHolds_ok (ho h).1 (ho h).2) (bt ?_ z))
    rw [hx, orB0 h, beq_self_eq_true]
  · refine df h (bt ?_ z)
    rw [hx, orB1 h, beq_self_eq_true]
theorem ct_w {m : MdlD} {s : List (List Int)} {c : List LitD} {vs : List Int} {v x : Int} {J : Int → Prop} (hv : chkC m c = v) (hx : holdE m c vs = x) (ho : x = 0 → (∀ l ∈ c, litE m.vars.length l = 0) ∧ vs.length = m.vars.length) :
    Call1 Tryz.prog f_cordonlaw_checkStore [dM m, dS s] .int fun c9 => sel (decide (c9 = 0))
      (Call1 Tryz.prog f_cordonref_CheckClause [dM m, .sl .lit c] .int fun c10 => sel (decide (c10 = 0))
        (Call1 Tryz.prog f_cordonref_UnitOf [dS s, .sl .lit c] (.list (.list .int)) fun c11 => Call1 Tryz.prog f_cordonref_DenyOf [dS s, .sl .lit c] (.list (.list .int)) fun c12 => (Call1 Tryz.prog f_cordonlaw_clauseBegun [] .bool fun c13 => sel c13 (Call1 Tryz.prog f_clause_Check [dM m, .sl .lit c] .int fun c14 => sel (decide (c14 = v)) (sel (decide (holdE m c vs = x)) (sel (decide (x = 0)) (Call1 Tryz.prog f_cordonref_ClauseHolds [.sl .lit c, .sl .int vs] .bool fun c15 => sel (orB (holdE m c vs) (holdsC c vs) == c15) (Call1 Tryz.prog f_cordonlaw_storeIs [dS (orS (rdyC m s c) (unitC s c)), dI (rdyC m s c), dI c10, dS c11] .bool fun c16 => sel c16 (Call1 Tryz.prog f_cordonlaw_storeIs [dS (orS (rdyC m s c) (denyC s c)), dI (rdyC m s c), dI c10, dS c12] .bool fun c17 => D.bool c17 = dB true) (D.bool false = dB true)) (D.bool false = dB true)) (sel (orB (holdE m c vs) (holdsC c vs) == false) (Call1 Tryz.prog f_cordonlaw_storeIs [dS (orS (rdyC m s c) (unitC s c)), dI (rdyC m s c), dI c10, dS c11] .bool fun c16 => sel c16 (Call1 Tryz.prog f_cordonlaw_storeIs [dS (orS (rdyC m s c) (denyC s c)), dI (rdyC m s c), dI c10, dS c12] .bool fun c17 => D.bool c17 = dB true) (D.bool false = dB true)) (D.bool false = dB true))) (D.bool false = dB true)) (D.bool false = dB true)) (D.bool false = dB true)))
        (Call1 Tryz.prog f_cordonlaw_clauseBegun [] .bool fun c13 => sel c13 (Call1 Tryz.prog f_clause_Check [dM m, .sl .lit c] .int fun c14 => sel (decide (c14 = v)) (sel (decide (holdE m c vs = x)) (sel (decide (x = 0)) (Call1 Tryz.prog f_cordonref_ClauseHolds [.sl .lit c, .sl .int vs] .bool fun c15 => sel (orB (holdE m c vs) (holdsC c vs) == c15) (Call1 Tryz.prog f_cordonlaw_storeIs [dS (orS (rdyC m s c) (unitC s c)), dI (rdyC m s c), dI c10, dS []] .bool fun c16 => sel c16 (Call1 Tryz.prog f_cordonlaw_storeIs [dS (orS (rdyC m s c) (denyC s c)), dI (rdyC m s c), dI c10, dS []] .bool fun c17 => D.bool c17 = dB true) (D.bool false = dB true)) (D.bool false = dB true)) (sel (orB (holdE m c vs) (holdsC c vs) == false) (Call1 Tryz.prog f_cordonlaw_storeIs [dS (orS (rdyC m s c) (unitC s c)), dI (rdyC m s c), dI c10, dS []] .bool fun c16 => sel c16 (Call1 Tryz.prog f_cordonlaw_storeIs [dS (orS (rdyC m s c) (denyC s c)), dI (rdyC m s c), dI c10, dS []] .bool fun c17 => D.bool c17 = dB true) (D.bool false = dB true)) (D.bool false = dB true))) (D.bool false = dB true)) (D.bool false = dB true)) (D.bool false = dB true)))
      (sel (decide (c9 = 0)) (J c9) (Call1 Tryz.prog f_cordonlaw_clauseBegun [] .bool fun c13 => sel c13 (Call1 Tryz.prog f_clause_Check [dM m, .sl .lit c] .int fun c14 => sel (decide (c14 = v)) (sel (decide (holdE m c vs = x)) (sel (decide (x = 0)) (Call1 Tryz.prog f_cordonref_ClauseHolds [.sl .lit c, .sl .int vs] .bool fun c15 => sel (orB (holdE m c vs) (holdsC c vs) == c15) (Call1 Tryz.prog f_cordonlaw_storeIs [dS (orS (rdyC m s c) (unitC s c)), dI (rdyC m s c), dI c9, dS []] .bool fun c16 => sel c16 (Call1 Tryz.prog f_cordonlaw_storeIs [dS (orS (rdyC m s c) (denyC s c)), dI (rdyC m s c), dI c9, dS []] .bool fun c17 => D.bool c17 = dB true) (D.bool false = dB true)) (D.bool false = dB true)) (sel (orB (holdE m c vs) (holdsC c vs) == false) (Call1 Tryz.prog f_cordonlaw_storeIs [dS (orS (rdyC m s c) (unitC s c)), dI (rdyC m s c), dI c9, dS []] .bool fun c16 => sel c16 (Call1 Tryz.prog f_cordonlaw_storeIs [dS (orS (rdyC m s c) (denyC s c)), dI (rdyC m s c), dI c9, dS []] .bool fun c17 => D.bool c17 = dB true) (D.bool false = dB true)) (D.bool false = dB true))) (D.bool false = dB true)) (D.bool false = dB true)) (D.bool false = dB true))) := by
  refine call1 (cordonlaw_checkStore_ok m s) ?_
  by_cases h9 : readyE m [s] = 0
  · have hm := ready_check h9
    have hr := rdyC_2 (c := c) h9
    refine dt h9 (call1 (cordonref_CheckClause_ok hm c) ?_)
    by_cases h10 : clauseE m.vars.length c = 0
    · obtain ⟨c1, c2⟩ := clauseE_zero h10
      have hl := (ready_one h9).2
      have hn := (right_of hm).vars
      exact dt h10 (call1 (cordonref_UnitOf_ok c2 hl hn c1) (call1 (cordonref_DenyOf_ok c2 hl hn c1) (ct_tail hv hx ho (ct_rest hr (by rw [hr]) (by rw [hr])))))
    · exact df h10 (ct_tail hv hx ho (ct_rest hr (by rw [hr, orS2 h10]) (by rw [hr, orS2 h10])))
  · have hr := rdyC_1 (c := c) h9
    exact df h9 (df h9 (ct_tail hv hx ho (ct_rest hr (by rw [hr, orS2 h9]) (by rw [hr, orS2 h9]))))
theorem cordonlaw_ClauseTells_ok (m : MdlD) (s : List (List Int)) (c : List LitD) (vs : List Int) : Sat Tryz.prog f_cordonlaw_ClauseTells [dM m, dS s, .sl .lit c, .sl .int vs] (dB true) :=
  cordonlaw_ClauseTells_sat m s c vs fun ok => by
    rw [cordonlaw_ClauseTells_eq]
    refine call2 (t := .bool) (u := .int) (clause_Holds_ok m c vs) (call2 (t := .list (.list .int)) (u := .int) (clause_Unit_ok m s c) (call2 (t := .list (.list .int)) (u := .int) (clause_Deny_ok m s c) (call1 (cordonref_CheckModel_ok m) ?_)))
    by_cases h : checkM m = 0
    · have hc := chkC_2 (c := c) h
      refine dt h (call1 (cordonref_CheckClause_ok h c) ?_)
      by_cases h8 : clauseE m.vars.length c = 0
      · refine dt h8 ?_
        have hc0 := hc.trans h8
        by_cases hl : (vs.length : Int) = (m.vars.length : Int)
        · have hl' : vs.length = m.vars.length := by omega
          exact dnf hl (ct_w hc (by rw [holdE, if_neg (not_not_intro hc0), if_neg (not_not_intro hl'), h8]) fun _ => ⟨(clauseE_zero h8).2, hl'⟩)
        · exact dnt hl (ct_w hc (by rw [holdE, if_neg (not_not_intro hc0), if_pos (by omega)]) fun e => absurd e (by decide))
      · exact df h8 (ct_w hc (by rw [holdE, if_pos (by rw [hc]; exact h8), hc]) fun e => absurd e h8)
    · have hc := chkC_1 (c := c) h
      exact df h (df h (ct_w hc (by rw [holdE, if_pos (by rw [hc]; exact h), hc]) fun e => absurd e h))
end Go.Proofs.YtonkbljpcgadlaaGreat
