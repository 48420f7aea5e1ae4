/- The law of what clauses keep. -/
import Derived.Test.YtgnjdgafkjohaaaGreatPClause1
namespace Go.Proofs.YtgnjdgafkjohaaaGreat
open Go.RowKit
set_option linter.unusedVariables false
set_option linter.unusedSimpArgs false

def hasV (s : List (List Int)) (vs : List Int) : Bool := decide (s.length = vs.length) && !(s.zip vs).any fun x => !hasI x.1 x.2
theorem hasV_iff {s : List (List Int)} {vs : List Int} : hasV s vs = true ↔ s.length = vs.length ∧ ∀ v : Nat, v < s.length → vs.getD v 0 ∈ s.getD v [] := by
  rw [hasV, Bool.and_eq_true, decide_eq_true_iff, Bool.not_eq_true', List.any_eq_false]
  constructor
  · rintro ⟨hl, h⟩
    refine ⟨hl, fun v hv => ?_⟩
    have hz : v < (s.zip vs).length := by rw [List.length_zip]; omega
    have := h _ (List.getElem_mem hz)
    rw [List.getElem_zip] at this
    rw [getD_at _ hv, getD_at _ (by omega)]
    exact hasI_iff.1 (by simpa using this)
  · rintro ⟨hl, h⟩
    refine ⟨hl, fun x hx => ?_⟩
    obtain ⟨i, hi, rfl⟩ := List.getElem_of_mem hx
    rw [List.length_zip] at hi
    have := h i (by omega)
    rw [getD_at _ (by omega), getD_at _ (by omega)] at this
    rw [List.getElem_zip, hasI_iff.2 this]; decide
theorem cordonlaw_has_ok (s : List (List Int)) (vs : List Int) : Sat Tryz.prog f_cordonlaw_has [dS s, .sl .int vs] (dB (hasV s vs)) :=
  cordonlaw_has_sat s vs fun ok => by
    have hs : okStore s := ok_list (ok1 ok)
    have hsl := store_len hs
    rw [cordonlaw_has_eq]
    refine sel_intro (fun e => ?_) fun e => ?_
    · rw [hasV, decide_eq_false (by simp at e; omega)]; rfl
    have e : s.length = vs.length := by simp at e; omega
    have hz : (s.zip vs).length = s.length := by rw [List.length_zip]; omega
    refine any0 (I := fun n v => cordonlaw_has_I0 s vs _ n v) (s.zip vs) (fun x => !hasI x.1 x.2) (by omega) (X := dB false = dB (hasV s vs)) (Y := dB true = dB (hasV s vs)) (by rw [hasV, decide_eq_true e]; cases (s.zip vs).any fun x => !hasI x.1 x.2 <;> rfl) (fun n k h hX hn => ?_) fun n hY => ?_
    · have hk : k < s.length := by omega
      rw [List.getElem_zip] at hX hn
      rw [cordonlaw_has_I0_eq, sel_lt hk, at_nat (t := .list .int) hk, at_nat (t := .int) (show k < vs.length by omega)]
      exact ⟨inb_nat hk, inb_nat (by omega), call1 (cordonref_HasInt_ok _ _) (sel_intro hX hn)⟩
    · rw [hz, cordonlaw_has_I0_eq, sel_end]; exact hY
/-! ### A clause holds, or it does not -/
theorem two_cholds : Sat Tryz.prog f_clause_Holds [dM twoM, .sl .lit [⟨0, 3, 2⟩, ⟨1, 2, 1⟩], .sl .int [0, 1]] (.tup [dB true, dI 0]) := by
  have h := clause_Holds_ok twoM [⟨0, 3, 2⟩, ⟨1, 2, 1⟩] [0, 1]
  rwa [show holdE twoM [⟨0, 3, 2⟩, ⟨1, 2, 1⟩] [0, 1] = 0 by kernel_rfl, show orB 0 (holdsC [⟨0, 3, 2⟩, ⟨1, 2, 1⟩] [0, 1]) = true by kernel_rfl] at h
theorem two_unit : Sat Tryz.prog f_clause_Unit [dM twoM, dS [[0, 1], [0, 1, 2]], .sl .lit [⟨0, 3, 2⟩, ⟨1, 2, 1⟩]] (.tup [dS [[0, 1], [1, 2]], dI 0]) := by
  have h := clause_Unit_ok twoM [[0, 1], [0, 1, 2]] [⟨0, 3, 2⟩, ⟨1, 2, 1⟩]
  rwa [show rdyC twoM [[0, 1], [0, 1, 2]] [⟨0, 3, 2⟩, ⟨1, 2, 1⟩] = 0 by kernel_rfl, show orS 0 (unitC [[0, 1], [0, 1, 2]] [⟨0, 3, 2⟩, ⟨1, 2, 1⟩]) = [[0, 1], [1, 2]] by kernel_rfl] at h
theorem two_deny : Sat Tryz.prog f_clause_Deny [dM twoM, dS [[0, 1], [0, 1, 2]], .sl .lit [⟨0, 3, 2⟩, ⟨1, 2, 1⟩]] (.tup [dS [[0, 1], [0]], dI 0]) := by
  have h := clause_Deny_ok twoM [[0, 1], [0, 1, 2]] [⟨0, 3, 2⟩, ⟨1, 2, 1⟩]
  rwa [show rdyC twoM [[0, 1], [0, 1, 2]] [⟨0, 3, 2⟩, ⟨1, 2, 1⟩] = 0 by kernel_rfl, show orS 0 (denyC [[0, 1], [0, 1, 2]] [⟨0, 3, 2⟩, ⟨1, 2, 1⟩]) = [[0, 1], [0]] by kernel_rfl] at h
theorem two_ccheck : Sat Tryz.prog f_clause_Check [dM twoM, .sl .lit [⟨0, 3, 2⟩, ⟨1, 2, 1⟩]] (dI 0) := by
  have h := clause_Check_ok twoM [⟨0, 3, 2⟩, ⟨1, 2, 1⟩]
  rwa [show chkC twoM [⟨0, 3, 2⟩, ⟨1, 2, 1⟩] = 0 by kernel_rfl] at h
theorem cordonlaw_clauseBegun_ok : Sat Tryz.prog f_cordonlaw_clauseBegun [] (dB true) :=
  cordonlaw_clauseBegun_sat fun ok => by
    rw [cordonlaw_clauseBegun_eq]
    exact call1 cordonlaw_two_ok (call2 (t := .bool) (u := .int) two_cholds (call1 cordonlaw_two_ok (call2 (t := .list (.list .int)) (u := .int) two_unit (call1 cordonlaw_two_ok (call2 (t := .list (.list .int)) (u := .int) two_deny (call1 cordonlaw_two_ok (call1 two_ccheck (call1 (cordonref_SameStore_ok _ _) (call1 (cordonref_SameStore_ok _ _) rfl)))))))))
end Go.Proofs.YtgnjdgafkjohaaaGreat
