/- The law that what holds is as the document says. -/
import Derived.Test.YtonkbljpcgadlaaGreatPModel4
import Derived.Test.YtonkbljpcgadlaaGreatPRef2
namespace Go.Proofs.YtonkbljpcgadlaaGreat
open Go.RowKit
set_option linter.unusedVariables false
set_option linter.unusedSimpArgs false

theorem cordonlaw_far_ok (vs : List Int) : Sat Tryz.prog f_cordonlaw_far [.sl .int vs] (dB (vs.any fun n => !inR n (-50) 50)) :=
  cordonlaw_far_sat vs fun ok => by
    rw [cordonlaw_far_eq]
    refine any0 (I := fun n v => cordonlaw_far_I0 vs _ n v) vs (fun n => !inR n (-50) 50) (okLen (t := .int) (ok1 ok)) (X := dB true = dB (vs.any fun n => !inR n (-50) 50)) (Y := dB false = dB (vs.any fun n => !inR n (-50) 50)) anyB (fun n k h hX hn => ?_) fun n hY => ?_
    · rw [cordonlaw_far_I0_eq, sel_lt h, at_nat (t := .int) h]
      refine ⟨inb_nat h, sel_intro (fun e => hX ?_) fun e => ⟨inb_nat h, sel_intro (fun f => hX ?_) fun f => hn ?_⟩⟩
      · rw [inR_false.2 (.inl (of_decide_eq_true e))]; rfl
      · rw [inR_false.2 (.inr (of_decide_eq_true f))]; rfl
      · simp at e f; simp [inR]; omega
    · rw [cordonlaw_far_I0_eq, sel_end]; exact hY
theorem mh_tail {m : MdlD} {con : Int} {vs : List Int} {m1 m3 : Bool} {m2 v m4 w : Int} (h2 : m2 = v) (h4 : m4 = w) (hc : v = 0 → atE m con = 0 ∧ GoodV vs m.vars.length) (h1 : m1 = orB v (trueC (conAt m con) vs)) (ha : w = 0 → Right m ∧ vs.length = m.vars.length) (h3 : m3 = orB w (wholeM m vs)) :
    Call1 Tryz.prog f_cordonlaw_modelBegun [] .bool fun c7 => sel c7
      (sel (decide (m2 = v))
        (sel (decide (v = 0))
          (inb con m.cons.length = true ∧ Call1 Tryz.prog f_cordonref_ConHolds [dC (at' .con m.cons con.toNat), .sl .int vs] .bool fun c => sel (m1 == c)
            (sel (decide (m4 = w)) (sel (decide (w = 0)) (Call1 Tryz.prog f_cordonref_AllHold [dM m, .sl .int vs] .bool fun c => D.bool (m3 == c) = dB true) (D.bool (m3 == false) = dB true)) (D.bool false = dB true))
            (D.bool false = dB true))
          (sel (m1 == false)
            (sel (decide (m4 = w)) (sel (decide (w = 0)) (Call1 Tryz.prog f_cordonref_AllHold [dM m, .sl .int vs] .bool fun c => D.bool (m3 == c) = dB true) (D.bool (m3 == false) = dB true)) (D.bool false = dB true))
            (D.bool false = dB true)))
        (D.bool false = dB true))
      (D.bool false = dB true) := by
  have hz : sel (decide (m4 = w)) (sel (decide (w = 0)) (Call1 Tryz.prog f_cordonref_AllHold [dM m, .sl .int vs] .bool fun c => D.bool (m3 == c) = dB true) (D.bool (m3 == false) = dB true)) (D.bool false = dB true) := by
    refine dt h4 ?_
    by_cases h : w = 0
    · refine dt h (call1 (cordonref_AllHold_ok (ha h).1 (ha h).2) ?_)
      rw [h3, orB0 h, beq_self_eq_true]
    · refine df h ?_
      rw [h3, orB1 h, beq_self_eq_true]
  refine call1 cordonlaw_modelBegun_ok (dt h2 ?_)
  by_cases h : v = 0
  · have hr := conAt_right (hc h).1
    refine dt h ⟨inb_iff.2 (atE_zero (hc h).1).2, call1 (cordonref_ConHolds_ok hr (hc h).2) (bt ?_ hz)⟩
    rw [h1, orB0 h]; exact beq_self_eq_true _
  · refine df h (bt ?_ hz)
    rw [h1, orB1 h, beq_self_eq_true]
theorem cordonlaw_ModelHolds_ok (m : MdlD) (con : Int) (vs : List Int) : Sat Tryz.prog f_cordonlaw_ModelHolds [dM m, dI con, .sl .int vs] (dB true) :=
  cordonlaw_ModelHolds_sat m con vs fun ok => by
    rw [cordonlaw_ModelHolds_eq]
    refine call2 (t := .bool) (u := .int) (model_Holds_ok m con vs) (call2 (t := .bool) (u := .int) (model_All_ok m vs) (call1 (cordonref_CheckModel_ok m) ?_))
    have k1 : ∀ {a : Int}, a ≠ 0 → a = 0 → atE m con = 0 ∧ GoodV vs m.vars.length := fun h1 h2 => absurd h2 h1
    have k2 : ∀ {a : Int}, a ≠ 0 → a = 0 → Right m ∧ vs.length = m.vars.length := fun h1 h2 => absurd h2 h1
    by_cases h : checkM m = 0
    · have hr := right_of h
      by_cases hl : (vs.length : Int) = (m.vars.length : Int)
      · have hl' : vs.length = m.vars.length := by omega
        have ea : allE m vs = 0 := by rw [allE, if_neg (not_not_intro h), if_neg (not_not_intro hl')]
        by_cases h1 : con < 0
        · have e1 : atE m con = 5 := by rw [atE, if_neg (not_not_intro h), if_pos (.inl h1)]
          have e : holdsE m con vs = 5 := by rw [holdsE, rdyM, e1]; rfl
          (repeat' (first | (refine dt (by assumption) ?_) | (refine df (by assumption) ?_) | (refine dnt (by assumption) ?_) | (refine dnf (by assumption) ?_) | (refine bt (by assumption) ?_) | (refine bf (by assumption) ?_) | (refine bnt (by assumption) ?_) | (refine bnf (by assumption) ?_) | (refine dt (by decide) ?_) | (refine df (by decide) ?_)))
          exact mh_tail e (ea.trans h.symm) (k1 (by decide)) (by rw [e]) (fun _ => ⟨hr, hl'⟩) (by rw [ea, h])
        · by_cases h2 : (m.cons.length : Int) ≤ con
          · have e1 : atE m con = 5 := by rw [atE, if_neg (not_not_intro h), if_pos (.inr h2)]
            have e : holdsE m con vs = 5 := by rw [holdsE, rdyM, e1]; rfl
            (repeat' (first | (refine dt (by assumption) ?_) | (refine df (by assumption) ?_) | (refine dnt (by assumption) ?_) | (refine dnf (by assumption) ?_) | (refine bt (by assumption) ?_) | (refine bf (by assumption) ?_) | (refine bnt (by assumption) ?_) | (refine bnf (by assumption) ?_) | (refine dt (by decide) ?_) | (refine df (by decide) ?_)))
            exact mh_tail e (ea.trans h.symm) (k1 (by decide)) (by rw [e]) (fun _ => ⟨hr, hl'⟩) (by rw [ea, h])
          · have e1 : atE m con = 0 := by rw [atE, if_neg (not_not_intro h), if_neg (by omega)]
            have e2 : rdyM m con vs.length = 0 := by rw [rdyM, e1, if_neg (by decide), if_neg (not_not_intro hl)]
            (repeat' (first | (refine dt (by assumption) ?_) | (refine df (by assumption) ?_) | (refine dnt (by assumption) ?_) | (refine dnf (by assumption) ?_) | (refine bt (by assumption) ?_) | (refine bf (by assumption) ?_) | (refine bnt (by assumption) ?_) | (refine bnf (by assumption) ?_) | (refine dt (by decide) ?_) | (refine df (by decide) ?_)))
            refine call1 (cordonlaw_far_ok vs) (sel_intro (fun f => ?_) fun f => ?_)
            · have e : holdsE m con vs = 3 := by rw [holdsE, if_neg (not_not_intro e2), if_pos f]
              (repeat' (first | (refine dt (by assumption) ?_) | (refine df (by assumption) ?_) | (refine dnt (by assumption) ?_) | (refine dnf (by assumption) ?_) | (refine bt (by assumption) ?_) | (refine bf (by assumption) ?_) | (refine bnt (by assumption) ?_) | (refine bnf (by assumption) ?_) | (refine dt (by decide) ?_) | (refine df (by decide) ?_)))
              exact mh_tail e (ea.trans h.symm) (k1 (by decide)) (by rw [e]) (fun _ => ⟨hr, hl'⟩) (by rw [ea, h])
            · have e : holdsE m con vs = 0 := by rw [holdsE, if_neg (not_not_intro e2), if_neg (by rw [f]; decide)]
              have hg : GoodV vs m.vars.length := ⟨hl', fun n hn => by have := List.any_eq_false.1 f n hn; simp [inR] at this; omega⟩
              (repeat' (first | (refine dt (by assumption) ?_) | (refine df (by assumption) ?_) | (refine dnt (by assumption) ?_) | (refine dnf (by assumption) ?_) | (refine bt (by assumption) ?_) | (refine bf (by assumption) ?_) | (refine bnt (by assumption) ?_) | (refine bnf (by assumption) ?_) | (refine dt (by decide) ?_) | (refine df (by decide) ?_)))
              exact mh_tail (e.trans h.symm) (ea.trans h.symm) (fun _ => ⟨e1, hg⟩) (by rw [e, h]) (fun _ => ⟨hr, hl'⟩) (by rw [ea, h])
      · have hl' : ¬vs.length = m.vars.length := by omega
        have ea : allE m vs = 1 := by rw [allE, if_neg (not_not_intro h), if_pos hl']
        by_cases h1 : con < 0
        · have e1 : atE m con = 5 := by rw [atE, if_neg (not_not_intro h), if_pos (.inl h1)]
          have e : holdsE m con vs = 5 := by rw [holdsE, rdyM, e1]; rfl
          (repeat' (first | (refine dt (by assumption) ?_) | (refine df (by assumption) ?_) | (refine dnt (by assumption) ?_) | (refine dnf (by assumption) ?_) | (refine bt (by assumption) ?_) | (refine bf (by assumption) ?_) | (refine bnt (by assumption) ?_) | (refine bnf (by assumption) ?_) | (refine dt (by decide) ?_) | (refine df (by decide) ?_)))
          exact mh_tail e ea (k1 (by decide)) (by rw [e]) (k2 (by decide)) (by rw [ea])
        · by_cases h2 : (m.cons.length : Int) ≤ con
          · have e1 : atE m con = 5 := by rw [atE, if_neg (not_not_intro h), if_pos (.inr h2)]
            have e : holdsE m con vs = 5 := by rw [holdsE, rdyM, e1]; rfl
            (repeat' (first | (refine dt (by assumption) ?_) | (refine df (by assumption) ?_) | (refine dnt (by assumption) ?_) | (refine dnf (by assumption) ?_) | (refine bt (by assumption) ?_) | (refine bf (by assumption) ?_) | (refine bnt (by assumption) ?_) | (refine bnf (by assumption) ?_) | (refine dt (by decide) ?_) | (refine df (by decide) ?_)))
            exact mh_tail e ea (k1 (by decide)) (by rw [e]) (k2 (by decide)) (by rw [ea])
          · have e1 : atE m con = 0 := by rw [atE, if_neg (not_not_intro h), if_neg (by omega)]
            have e2 : rdyM m con vs.length = 1 := by rw [rdyM, e1, if_neg (by decide), if_pos hl]
            have e : holdsE m con vs = 1 := by rw [holdsE, e2]; rfl
            (repeat' (first | (refine dt (by assumption) ?_) | (refine df (by assumption) ?_) | (refine dnt (by assumption) ?_) | (refine dnf (by assumption) ?_) | (refine bt (by assumption) ?_) | (refine bf (by assumption) ?_) | (refine bnt (by assumption) ?_) | (refine bnf (by assumption) ?_) | (refine dt (by decide) ?_) | (refine df (by decide) ?_)))
            exact mh_tail e ea (k1 (by decide)) (by rw [e]) (k2 (by decide)) (by rw [ea])
    · have e1 : atE m con = checkM m := if_pos h
      have e2 : rdyM m con vs.length = checkM m := by rw [rdyM, e1, if_pos h]
      have e : holdsE m con vs = checkM m := by rw [holdsE, e2, if_pos h]
      have ea : allE m vs = checkM m := if_pos h
      (repeat' (first | (refine dt (by assumption) ?_) | (refine df (by assumption) ?_) | (refine dnt (by assumption) ?_) | (refine dnf (by assumption) ?_) | (refine bt (by assumption) ?_) | (refine bf (by assumption) ?_) | (refine bnt (by assumption) ?_) | (refine bnf (by assumption) ?_) | (refine dt (by decide) ?_) | (refine df (by decide) ?_)))
      exact mh_tail e ea (k1 h) (by rw [e]) (k2 h) (by rw [ea])
end Go.Proofs.YtonkbljpcgadlaaGreat
