/- The law that all calls of literals answer as the document says. -/
import Derived.Test.YtonkbljpcgadlaaPLit2
namespace Go.Proofs.Ytonkbljpcgadlaa
open Go.RowKit
set_option linter.unusedVariables false
set_option linter.unusedSimpArgs false

theorem lit_rest {l7 : List (List Int)} {v0 v : Int} {n0 n : LitD} {w0 w : Int} {t0 t : Int} {e0 : Int} {p : List (List Int)} (hv : v0 = v) (hn : n0 = n) (hw : w0 = w) (ht : t0 = t) (hp : isS l7 e0 w p = true) :
    sel (decide (v0 = v)) (sel (decide (n0 = n)) (sel (decide (w0 = w)) (sel (decide (t0 = t)) (Call1 Try.prog f_cordonlaw_storeIs [dS l7, dI e0, dI w, dS p] .bool fun c => D.bool c = dB true) (D.bool false = dB true)) (D.bool false = dB true)) (D.bool false = dB true)) (D.bool false = dB true) := by
  refine dt hv (dt hn (dt hw (dt ht (call1 (cordonlaw_storeIs_ok _ _ _ _) ?_))))
  rw [hp]
theorem lit_tail {m : MdlD} {l : LitD} {n : Int} {u u0 : Int} {l1 : Bool} {Z : Prop} (hu : chkL m l = u) (hu0 : u0 = u) (ho : u = 0 → inR l.op 1 4 = true) (h1 : l1 = orB u (holdsL l n)) (z : Z) :
    Call1 Try.prog f_cordonlaw_litBegun [] .bool fun c17 => sel c17
      (Call1 Try.prog f_lit_Check [dM m, dL l] .int fun l18 => sel (decide (l18 = u)) (sel (decide (u0 = u))
        (sel (decide (u = 0)) (Call1 Try.prog f_cordonref_LitHolds [dL l, dI n] .bool fun c19 => sel (l1 == c19) Z (D.bool false = dB true)) (sel (l1 == false) Z (D.bool false = dB true)))
        (D.bool false = dB true)) (D.bool false = dB true)) (D.bool false = dB true) := by
  refine call1 cordonlaw_litBegun_ok (call1 (lit_Check_ok m l) (dt hu (dt hu0 ?_)))
  by_cases h : u = 0
  · refine dt h (call1 (cordonref_LitHolds_ok l n (ho h)) (bt ?_ z))
    rw [h1, orB0 h, beq_self_eq_true]
  · refine df h (bt ?_ z)
    rw [h1, orB1 h, beq_self_eq_true]
theorem checkL_ok {m : MdlD} {l : LitD} (h : checkM m = 0) : Sat Try.prog f_cordonref_CheckLit [dM m, dL l] (dI (litE m.vars.length l)) := cordonref_CheckLit_ok m l (by have := (right_of h).vars; omega)
theorem litE_op' {nv : Nat} {l : LitD} (h : litE nv l = 0) : inR l.op 1 4 = true := inR_true.2 (litE_zero.1 h).2.1
theorem lit_w {m : MdlD} {s : List (List Int)} {l : LitD} {n : Int} {u v : Int} {no : LitD} {J : Int → Prop} (hu : chkL m l = u) (hv : notE m l = v) (hn : orL (notE m l) (oppL l) = no) :
    Call1 Try.prog f_cordonlaw_checkStore [dM m, dS s] .int fun c13 => sel (decide (c13 = 0))
      (Call1 Try.prog f_cordonref_CheckLit [dM m, dL l] .int fun c14 => sel (decide (c14 = 0))
        (Call1 Try.prog f_cordonref_ToldOf [dS s, dL l] .int fun c15 => Call1 Try.prog f_cordonref_PutOf [dS s, dL l] (.list (.list .int)) fun c16 =>
          Call1 Try.prog f_cordonlaw_litBegun [] .bool fun c17 => sel c17
            (Call1 Try.prog f_lit_Check [dM m, dL l] .int fun l18 => sel (decide (l18 = u)) (sel (decide (chkL m l = u))
              (sel (decide (u = 0)) (Call1 Try.prog f_cordonref_LitHolds [dL l, dI n] .bool fun c19 => sel (orB (chkL m l) (holdsL l n) == c19)
                  (sel (decide (notE m l = v)) (sel (decide (orL (notE m l) (oppL l) = no)) (sel (decide (rdyL m s l = c14)) (sel (decide (orI (rdyL m s l) (toldL s l) = c15)) (Call1 Try.prog f_cordonlaw_storeIs [dS (orS (rdyL m s l) (putL s l)), dI (rdyL m s l), dI c14, dS c16] .bool fun c => D.bool c = dB true) (D.bool false = dB true)) (D.bool false = dB true)) (D.bool false = dB true)) (D.bool false = dB true))
                  (D.bool false = dB true))
                (sel (orB (chkL m l) (holdsL l n) == false)
                  (sel (decide (notE m l = v)) (sel (decide (orL (notE m l) (oppL l) = no)) (sel (decide (rdyL m s l = c14)) (sel (decide (orI (rdyL m s l) (toldL s l) = c15)) (Call1 Try.prog f_cordonlaw_storeIs [dS (orS (rdyL m s l) (putL s l)), dI (rdyL m s l), dI c14, dS c16] .bool fun c => D.bool c = dB true) (D.bool false = dB true)) (D.bool false = dB true)) (D.bool false = dB true)) (D.bool false = dB true))
                  (D.bool false = dB true)))
              (D.bool false = dB true)) (D.bool false = dB true)) (D.bool false = dB true))
        (Call1 Try.prog f_cordonlaw_litBegun [] .bool fun c17 => sel c17
            (Call1 Try.prog f_lit_Check [dM m, dL l] .int fun l18 => sel (decide (l18 = u)) (sel (decide (chkL m l = u))
              (sel (decide (u = 0)) (Call1 Try.prog f_cordonref_LitHolds [dL l, dI n] .bool fun c19 => sel (orB (chkL m l) (holdsL l n) == c19)
                  (sel (decide (notE m l = v)) (sel (decide (orL (notE m l) (oppL l) = no)) (sel (decide (rdyL m s l = c14)) (sel (decide (orI (rdyL m s l) (toldL s l) = 0)) (Call1 Try.prog f_cordonlaw_storeIs [dS (orS (rdyL m s l) (putL s l)), dI (rdyL m s l), dI c14, dS []] .bool fun c => D.bool c = dB true) (D.bool false = dB true)) (D.bool false = dB true)) (D.bool false = dB true)) (D.bool false = dB true))
                  (D.bool false = dB true))
                (sel (orB (chkL m l) (holdsL l n) == false)
                  (sel (decide (notE m l = v)) (sel (decide (orL (notE m l) (oppL l) = no)) (sel (decide (rdyL m s l = c14)) (sel (decide (orI (rdyL m s l) (toldL s l) = 0)) (Call1 Try.prog f_cordonlaw_storeIs [dS (orS (rdyL m s l) (putL s l)), dI (rdyL m s l), dI c14, dS []] .bool fun c => D.bool c = dB true) (D.bool false = dB true)) (D.bool false = dB true)) (D.bool false = dB true)) (D.bool false = dB true))
                  (D.bool false = dB true)))
              (D.bool false = dB true)) (D.bool false = dB true)) (D.bool false = dB true)))
      (sel (decide (c13 = 0)) (J c13)
        (Call1 Try.prog f_cordonlaw_litBegun [] .bool fun c17 => sel c17
            (Call1 Try.prog f_lit_Check [dM m, dL l] .int fun l18 => sel (decide (l18 = u)) (sel (decide (chkL m l = u))
              (sel (decide (u = 0)) (Call1 Try.prog f_cordonref_LitHolds [dL l, dI n] .bool fun c19 => sel (orB (chkL m l) (holdsL l n) == c19)
                  (sel (decide (notE m l = v)) (sel (decide (orL (notE m l) (oppL l) = no)) (sel (decide (rdyL m s l = c13)) (sel (decide (orI (rdyL m s l) (toldL s l) = 0)) (Call1 Try.prog f_cordonlaw_storeIs [dS (orS (rdyL m s l) (putL s l)), dI (rdyL m s l), dI c13, dS []] .bool fun c => D.bool c = dB true) (D.bool false = dB true)) (D.bool false = dB true)) (D.bool false = dB true)) (D.bool false = dB true))
                  (D.bool false = dB true))
                (sel (orB (chkL m l) (holdsL l n) == false)
                  (sel (decide (notE m l = v)) (sel (decide (orL (notE m l) (oppL l) = no)) (sel (decide (rdyL m s l = c13)) (sel (decide (orI (rdyL m s l) (toldL s l) = 0)) (Call1 Try.prog f_cordonlaw_storeIs [dS (orS (rdyL m s l) (putL s l)), dI (rdyL m s l), dI c13, dS []] .bool fun c => D.bool c = dB true) (D.bool false = dB true)) (D.bool false = dB true)) (D.bool false = dB true)) (D.bool false = dB true))
                  (D.bool false = dB true)))
              (D.bool false = dB true)) (D.bool false = dB true)) (D.bool false = dB true))) := by
  have ho : u = 0 → inR l.op 1 4 = true := fun h => litE_op' (chkL_zero (hu.trans h)).2
  have h1 : orB (chkL m l) (holdsL l n) = orB u (holdsL l n) := by rw [hu]
  refine call1 (cordonlaw_checkStore_ok m s) ?_
  by_cases h13 : readyE m [s] = 0
  · have h9 := ready_check h13
    have hr := rdyL_2 (l := l) h13
    refine dt h13 (call1 (checkL_ok h9) ?_)
    by_cases h14 : litE m.vars.length l = 0
    · have hz := rdyL_zero (hr.trans h14)
      have hv1 := (litE_zero.1 h14).1
      have hl := storeE_len hz.2.1
      refine dt h14 (call1 (cordonref_ToldOf_ok (by omega) (litE_op' h14)) (call1 (cordonref_PutOf_ok (litE_op' h14)) ?_))
      exact lit_tail hu hu ho h1 (lit_rest hv hn hr (orI0 (hr.trans h14)) (isS_same hr (by rw [hr])))
    · exact df h14 (lit_tail hu hu ho h1 (lit_rest hv hn hr (orI1 (by rw [hr]; exact h14)) (isS_same hr (by rw [hr, orS2 h14]))))
  · have hr := rdyL_1 (l := l) h13
    exact df h13 (df h13 (lit_tail hu hu ho h1 (lit_rest hv hn hr (orI1 (by rw [hr]; exact h13)) (isS_same hr (by rw [hr, orS2 h13])))))
theorem cordonlaw_LitTells_ok (m : MdlD) (s : List (List Int)) (l : LitD) (n : Int) : Sat Try.prog f_cordonlaw_LitTells [dM m, dS s, dL l, dI n] (dB true) :=
  cordonlaw_LitTells_sat m s l n fun ok => by
    rw [cordonlaw_LitTells_eq]
    refine call2 (t := .bool) (u := .int) (lit_Holds_ok m l n) (call2 (t := .lit) (u := .int) (lit_Not_ok m l) (call2 (t := .int) (u := .int) (lit_Told_ok m s l) (call2 (t := .list (.list .int)) (u := .int) (lit_Put_ok m s l) (call1 (cordonref_CheckModel_ok m) ?_))))
    by_cases h9 : checkM m = 0
    · refine dt h9 (call1 (checkL_ok h9) ?_)
      have hc := chkL_2 (l := l) h9
      by_cases h10 : litE m.vars.length l = 0
      · have hn := chkL_n (hc.trans h10)
        have hz := litE_zero.1 h10
        have he := notE_2 (hc.trans h10)
        refine dt h10 (call1 (cordonref_OppositeOf_ok l hz.2.1 hn) (call1 (checkL_ok h9) ?_))
        by_cases h12 : litE m.vars.length (oppL l) = 0
        · exact dnf h12 (lit_w hc he (orL0 (he.trans h12)))
        · exact dnt h12 (lit_w hc he (orL1 (by rw [he]; exact h12)))
      · have he := notE_1 (m := m) (l := l) (by rw [hc]; exact h10)
        exact df h10 (dnt h10 (lit_w hc (he.trans hc) (orL1 (by rw [he, hc]; exact h10))))
    · have hc := chkL_1 (l := l) h9
      have he := notE_1 (m := m) (l := l) (by rw [hc]; exact h9)
      exact df h9 (df h9 (dnt h9 (lit_w hc (he.trans hc) (orL1 (by rw [he, hc]; exact h9)))))
end Go.Proofs.Ytonkbljpcgadlaa
