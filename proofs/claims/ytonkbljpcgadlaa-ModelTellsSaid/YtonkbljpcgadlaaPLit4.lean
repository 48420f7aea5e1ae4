/- The law that a literal and its opposite part the values. -/
import Derived.Test.YtonkbljpcgadlaaPLit3
namespace Go.Proofs.Ytonkbljpcgadlaa
open Go.RowKit
set_option linter.unusedVariables false
set_option linter.unusedSimpArgs false

theorem opp_var {l : LitD} : (oppL l).var = l.var := by
  unfold oppL; split
  · rfl
  split
  · rfl
  split <;> rfl
theorem opp_holds {l : LitD} (h : 1 ≤ l.op ∧ l.op ≤ 4) (n : Int) : holdsL (oppL l) n = !holdsL l n := by
  have h3 : l.op = 1 ∨ l.op = 2 ∨ l.op = 3 ∨ l.op = 4 := by omega
  rcases h3 with h | h | h | h <;> simp [oppL, holdsL, h] <;> first | rfl | (rw [← decide_not]; exact decide_eq_decide.2 (by omega)) | (exact decide_eq_decide.2 (by omega)) | omega
theorem putL_at {s : List (List Int)} {l : LitD} {v : Nat} (h : l.var = v) : (putL s l).getD v [] = (s.getD v []).filter (holdsL l) := by
  rw [putL, keepS_getD]
  congr 1; funext n; rw [decide_eq_true h.symm]; rfl
theorem filter_parts {α : Type} {p : α → Bool} : ∀ {r : List α}, (r.filter p).length + (r.filter fun x => !p x).length = r.length
  | [] => rfl
  | a :: r => by
    have := filter_parts (p := p) (r := r)
    rw [List.filter_cons, List.filter_cons]
    cases p a <;> simp <;> omega
theorem told_opp {l : LitD} (h : 1 ≤ l.op ∧ l.op ≤ 4) {r : List Int} : toldR (oppL l) r = if (r.any fun n => !holdsL l n) = false then -1 else if (r.all fun n => !holdsL l n) = true then 1 else 0 := by
  rw [toldR, show holdsL (oppL l) = fun n => !holdsL l n from funext fun n => opp_holds h n]
theorem told_parts {l : LitD} (h : 1 ≤ l.op ∧ l.op ≤ 4) {r : List Int} (hr : r ≠ []) : toldR l r = -toldR (oppL l) r ∧ (toldR l r = 1 ↔ (r.filter fun n => !holdsL l n).length = 0) ∧ (toldR (oppL l) r = 1 ↔ (r.filter (holdsL l)).length = 0) := by
  rw [told_opp h, filter_any, filter_any, toldR]
  have e1 : (r.all fun n => !holdsL l n) = !r.any (holdsL l) := by rw [List.all_eq_not_any_not]; simp
  have e2 : r.all (holdsL l) = !r.any fun n => !holdsL l n := List.all_eq_not_any_not
  have e3 : r.any (holdsL l) = true ∨ (r.any fun n => !holdsL l n) = true := by
    obtain ⟨a, t, rfl⟩ : ∃ a t, r = a :: t := by cases r with | nil => exact absurd rfl hr | cons a t => exact ⟨a, t, rfl⟩
    cases ha : holdsL l a <;> simp [ha]
  rw [e1, e2]
  cases h1 : r.any (holdsL l) <;> cases h2 : (r.any fun n => !holdsL l n) <;> simp [h1, h2] at e3 ⊢
theorem told_nil {l : LitD} : toldR l [] = -1 := rfl
theorem toldR_range {l : LitD} {r : List Int} : -1 ≤ toldR l r ∧ toldR l r ≤ 1 := by unfold toldR; split; · omega
                                                                                     · split <;> omega
theorem cordonlaw_LitParts_ok (m : MdlD) (s : List (List Int)) (l : LitD) (n : Int) : Sat Try.prog f_cordonlaw_LitParts [dM m, dS s, dL l, dI n] (dB true) :=
  cordonlaw_LitParts_sat m s l n fun ok => by
    have hs : okStore s := ok_list (ok1 (okR ok))
    have hsl := store_len hs
    rw [cordonlaw_LitParts_eq]
    refine call1 cordonlaw_litBegun_ok (call1 cordonlaw_storeBegun_ok (call2 (t := .lit) (u := .int) (lit_Not_ok m l) ?_))
    by_cases h : notE m l = 0
    · have hc : chkL m l = 0 := by
        by_cases hc : chkL m l = 0
        · exact hc
        · rw [notE_1 hc] at h; exact h
      have ho : litE m.vars.length (oppL l) = 0 := by rw [notE_2 hc] at h; exact h
      obtain ⟨h9, h10⟩ := chkL_zero hc
      have hz := litE_zero.1 h10
      have hc2 : chkL m (oppL l) = 0 := by rw [chkL_2 h9]; exact ho
      refine dnf h ?_
      rw [orL0 h]
      refine call2 (t := .bool) (u := .int) (lit_Holds_ok m l n) (call2 (t := .bool) (u := .int) (lit_Holds_ok m (oppL l) n) (dnf hc (dnf hc2 (bf ?_ ?_))))
      · rw [orB0 hc, orB0 hc2, opp_holds hz.2.1]; cases holdsL l n <;> rfl
      refine call2 (t := .list (.list .int)) (u := .int) (lit_Put_ok m s l) (call2 (t := .list (.list .int)) (u := .int) (lit_Put_ok m s (oppL l)) ?_)
      by_cases hr : readyE m [s] = 0
      · have r1 : rdyL m s l = 0 := by rw [rdyL_2 hr]; exact h10
        have r2 : rdyL m s (oppL l) = 0 := by rw [rdyL_2 hr]; exact ho
        have hl := storeE_len (rdyL_zero r1).2.1
        refine dnf r1 (call2 (t := .int) (u := .int) (lit_Told_ok m s l) (call2 (t := .int) (u := .int) (lit_Told_ok m s (oppL l)) (dnf r2 (dnf r1 (dnf r2 ?_)))))
        rw [orS0 r1, orS0 r2, orI0 r1, orI0 r2]
        have l1 : (putL s l).length = s.length := keepS_length
        have l2 : (putL s (oppL l)).length = s.length := keepS_length
        refine dnf (by rw [l1]) (dnf (by rw [l2]) ?_)
        obtain ⟨v, hv⟩ : ∃ v : Nat, l.var = v := ⟨l.var.toNat, by omega⟩
        have hvl : v < s.length := by omega
        have hrow := store_row hs hvl
        have hv' : (oppL l).var = v := opp_var.trans hv
        have t1 : toldL s l = toldR l s[v] := by rw [toldL, hv, Int.toNat_natCast, getD_at _ hvl]
        have t2 : toldL s (oppL l) = toldR (oppL l) s[v] := by rw [toldL, hv', Int.toNat_natCast, getD_at _ hvl]
        have p1 : (putL s l)[v]'(by omega) = s[v].filter (holdsL l) := by
          have := putL_at (s := s) hv
          rw [getD_at _ hvl, getD_at _ (by omega)] at this; exact this
        have p2 : (putL s (oppL l))[v]'(by omega) = s[v].filter fun n => !holdsL l n := by
          have := putL_at (s := s) hv'
          rw [getD_at _ hvl, getD_at _ (by omega), show holdsL (oppL l) = fun n => !holdsL l n from funext fun n => opp_holds hz.2.1 n] at this; exact this
        have hsum := filter_parts (p := holdsL l) (r := s[v])
        rw [hv, at_nat (t := .list .int) hvl, at_nat (t := .list .int) (show v < (putL s l).length by omega), at_nat (t := .list .int) (show v < (putL s (oppL l)).length by omega), p1, p2, t1, t2]
        refine ⟨inb_nat (by omega), inb_nat (by omega), inb_nat hvl, dnf (by rw [w64_eq (n := ((List.filter (holdsL l) s[v]).length : Int) + ((s[v].filter fun n => !holdsL l n).length : Int)) (by omega) (by omega)]; omega) ⟨inb_nat hvl, sel_intro (fun e => ?_) fun e => ?_⟩⟩
        · have e : s[v] = [] := by have e := of_decide_eq_true e; exact List.length_eq_zero_iff.1 (by omega)
          rw [e]; rfl
        · have e : s[v] ≠ [] := fun h => by rw [h] at e; exact absurd e (by decide)
          obtain ⟨a1, a2, a3⟩ := told_parts hz.2.1 e
          have b1 := toldR_range (l := oppL l) (r := s[v])
          refine dt (by rw [w64_eq (n := 0 - toldR (oppL l) s[v]) (by omega) (by omega), a1]; exact (Int.zero_sub _).symm) ?_
          refine ⟨inb_nat ?_, bt ?_ ⟨inb_nat ?_, ?_⟩⟩
          · omega
          · rw [beq_iff_eq]; exact decide_eq_decide.2 (by rw [a2]; omega)
          · omega
          · rw [show (decide (toldR (oppL l) s[v] = 1)) = decide (((s[v].filter (holdsL l)).length : Int) = 0) from decide_eq_decide.2 (by rw [a3]; omega), beq_self_eq_true]
      · have r1 : rdyL m s l = readyE m [s] := rdyL_1 hr
        have r2 : rdyL m s (oppL l) = readyE m [s] := rdyL_1 hr
        refine dnt (by rw [r1]; exact hr) (dt (by rw [r1, r2]) ?_)
        rw [orS1 (by rw [r1]; exact hr)]; rfl
    · refine dnt h ?_
      rw [orL1 h]; rfl
end Go.Proofs.Ytonkbljpcgadlaa
