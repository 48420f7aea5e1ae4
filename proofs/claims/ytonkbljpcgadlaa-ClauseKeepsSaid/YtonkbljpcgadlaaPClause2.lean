/- The law of what clauses keep. -/
import Derived.Test.YtonkbljpcgadlaaPClause1
namespace Go.Proofs.Ytonkbljpcgadlaa
open Go.RowKit
set_option linter.unusedVariables false
set_option linter.unusedSimpArgs false

def hasV (s : List (List Int)) (vs : List Int) : Bool := decide (s.length = vs.length) && !(s.zip vs).any fun x => !hasI x.1 x.2
theorem hasV_iff {s : List (List Int)} {vs : List Int} : hasV s vs = true ↔ s.length = vs.length ∧ ∀ v : Nat, v < s.length → vs.getD v 0 ∈ s.getD v [] := by
  rw [hasV, Bool.and_eq_true, decide_eq_true_iff, Bool.not_eq_true', List.any_eq_false]
  constructor
  · rintro ⟨hl, h⟩
    refine ⟨hl, fun v hv => ?_⟩
    have hz : v < (s.zip vs).length := by rw [List.length_zip]; omega
    have := h _ (List.getElem_mem hz)
    rw [List.getElem_zip] at this
    rw [getD_at _ hv, getD_at _ (by omega)]
    exact hasI_iff.1 (by simpa using this)
  · rintro ⟨hl, h⟩
    refine ⟨hl, fun x hx => ?_⟩
    obtain ⟨i, hi, rfl⟩ := List.getElem_of_mem hx
    rw [List.length_zip] at hi
    have := h i (by omega)
    rw [getD_at _ (by omega), getD_at _ (by omega)] at this
    rw [List.getElem_zip, hasI_iff.2 this]; decide
theorem cordonlaw_has_ok (s : List (List Int)) (vs : List Int) : Sat Try.prog f_cordonlaw_has [dS s, .sl .int vs] (dB (hasV s vs)) :=
  cordonlaw_has_sat s vs fun ok => by
    have hs : okStore s := ok_list (ok1 ok)
    have hsl := store_len hs
    rw [cordonlaw_has_eq]
    refine sel_intro (fun e => ?_) fun e => ?_
    · rw [hasV, decide_eq_false (by simp at e; omega)]; rfl
    have e : s.length = vs.length := by simp at e; omega
    have hz : (s.zip vs).length = s.length := by rw [List.length_zip]; omega
    refine any0 (I := fun n v => cordonlaw_has_I0 s vs _ n v) (s.zip vs) (fun x => !hasI x.1 x.2) (by omega) (X := dB false = dB (hasV s vs)) (Y := dB true = dB (hasV s vs)) (by rw [hasV, decide_eq_true e]; cases (s.zip vs).any fun x => !hasI x.1 x.2 <;> rfl) (fun n k h hX hn => ?_) fun n hY => ?_
    · have hk : k < s.length := by omega
      rw [List.getElem_zip] at hX hn
      rw [cordonlaw_has_I0_eq, sel_lt hk, at_nat (t := .list .int) hk, at_nat (t := .int) (show k < vs.length by omega)]
      exact ⟨inb_nat hk, inb_nat (by omega), call1 (cordonref_HasInt_ok _ _) (sel_intro hX hn)⟩
    · rw [hz, cordonlaw_has_I0_eq, sel_end]; exact hY
/-! ### A clause holds, or it does not -/
theorem atC_iff {c : List LitD} {v n : Int} : atC c v n = true ↔ ∃ l ∈ c, l.var = v ∧ holdsL l n = true := by
  rw [atC, List.any_eq_true]
  constructor
  · rintro ⟨l, hl, h⟩
    split at h
    · exact ⟨l, hl, by assumption, h⟩
    · exact absurd h (by decide)
  · rintro ⟨l, hl, h1, h2⟩
    exact ⟨l, hl, by rw [if_pos h1]; exact h2⟩
theorem deny_has {s : List (List Int)} {vs : List Int} {c : List LitD} (hc : ∀ l ∈ c, 0 ≤ l.var ∧ l.var < s.length) (h : hasV s vs = true) : hasV (denyC s c) vs = !holdsC c vs := by
  obtain ⟨hl, hm⟩ := hasV_iff.1 h
  have hdl : (denyC s c).length = s.length := keepS_length
  have hat : ∀ v, (denyC s c).getD v [] = (s.getD v []).filter fun n => !atC c v n := fun v => keepS_getD (f := fun v n => !atC c v n)
  rw [Bool.eq_iff_iff, hasV_iff, Bool.not_eq_true', holdsC, List.any_eq_false, hdl]
  constructor
  · rintro ⟨_, h1⟩ l hl e
    have hv := hc l hl
    have := h1 l.var.toNat (by omega)
    rw [hat, List.mem_filter] at this
    have h2 : atC c (l.var.toNat : Int) (vs.getD l.var.toNat 0) = true := atC_iff.2 ⟨l, hl, by omega, e⟩
    rw [h2] at this
    exact absurd this.2 (by decide)
  · intro h1
    refine ⟨hl, fun v hv => ?_⟩
    rw [hat, List.mem_filter]
    refine ⟨hm v hv, ?_⟩
    cases ha : atC c v (vs.getD v 0)
    · rfl
    · obtain ⟨l, hl, e1, e2⟩ := atC_iff.1 ha
      refine absurd ?_ (h1 l hl)
      rw [show l.var.toNat = v by omega]; exact e2
theorem told_live {s : List (List Int)} {l : LitD} {n : Int} (hn : n ∈ s.getD l.var.toNat []) (h : holdsL l n = true) : ¬toldL s l < 0 := by
  have : (s.getD l.var.toNat []).any (holdsL l) = true := List.any_eq_true.2 ⟨n, hn, h⟩
  rw [toldL, toldR, this]
  simp only [Bool.true_eq_false, if_false]
  split <;> omega
theorem put_has {s : List (List Int)} {vs : List Int} {c : List LitD} (h : hasV s vs = true) {l0 : LitD} (h0 : l0 ∈ c) (h1 : 0 ≤ l0.var) (h2 : holdsL l0 (vs.getD l0.var.toNat 0) = true) (h3 : ¬toldL s l0 < 0) : ∀ (ls : List LitD) (one : Int), (l0 ∈ ls ∨ l0.var = one) → hasV (putC s c ls one) vs = true
  | [], one, hi => by
    have e : l0.var = one := hi.resolve_left (by simp)
    rw [putC, if_neg (by omega)]
    obtain ⟨hl, hm⟩ := hasV_iff.1 h
    rw [hasV_iff, keepC, keepS_length]
    refine ⟨hl, fun v hv => ?_⟩
    rw [keepS_getD, List.mem_filter]
    refine ⟨hm v hv, ?_⟩
    by_cases hvo : (v : Int) = one
    · have : atC c one (vs.getD v 0) = true := atC_iff.2 ⟨l0, h0, e, by rw [show v = l0.var.toNat by omega]; exact h2⟩
      rw [this, Bool.or_true]
    · rw [decide_eq_false hvo]; rfl
  | l :: ls, one, hi => by
    rw [putC]
    split
    · rename_i hd
      refine put_has h h0 h1 h2 h3 ls one ?_
      rcases hi with hi | hi
      · rcases List.mem_cons.1 hi with rfl | hi
        · exact absurd hd h3
        · exact .inl hi
      · exact .inr hi
    split
    · exact h
    · rename_i hd he
      refine put_has h h0 h1 h2 h3 ls l.var ?_
      rcases hi with hi | hi
      · rcases List.mem_cons.1 hi with rfl | hi
        · exact .inr rfl
        · exact .inl hi
      · refine .inr ?_
        by_cases h5 : one = l.var
        · rw [hi, h5]
        · exact absurd ⟨by omega, h5⟩ he
theorem unit_has {s : List (List Int)} {vs : List Int} {c : List LitD} (hc : ∀ l ∈ c, 0 ≤ l.var ∧ l.var < s.length) (h : hasV s vs = true) (hh : holdsC c vs = true) : hasV (unitC s c) vs = true := by
  unfold unitC
  split
  · exact h
  · obtain ⟨l0, h0, h2⟩ := List.any_eq_true.1 hh
    have hv := hc l0 h0
    have hm := (hasV_iff.1 h).2 l0.var.toNat (by omega)
    exact put_has h h0 hv.1 h2 (told_live hm h2) c _ (.inl h0)
theorem two_cholds : Sat Try.prog f_clause_Holds [dM twoM, .sl .lit [⟨0, 3, 2⟩, ⟨1, 2, 1⟩], .sl .int [0, 1]] (.tup [dB true, dI 0]) := by
  have h := clause_Holds_ok twoM [⟨0, 3, 2⟩, ⟨1, 2, 1⟩] [0, 1]
  rwa [show holdE twoM [⟨0, 3, 2⟩, ⟨1, 2, 1⟩] [0, 1] = 0 by kernel_rfl, show orB 0 (holdsC [⟨0, 3, 2⟩, ⟨1, 2, 1⟩] [0, 1]) = true by kernel_rfl] at h
theorem two_unit : Sat Try.prog f_clause_Unit [dM twoM, dS [[0, 1], [0, 1, 2]], .sl .lit [⟨0, 3, 2⟩, ⟨1, 2, 1⟩]] (.tup [dS [[0, 1], [1, 2]], dI 0]) := by
  have h := clause_Unit_ok twoM [[0, 1], [0, 1, 2]] [⟨0, 3, 2⟩, ⟨1, 2, 1⟩]
  rwa [show rdyC twoM [[0, 1], [0, 1, 2]] [⟨0, 3, 2⟩, ⟨1, 2, 1⟩] = 0 by kernel_rfl, show orS 0 (unitC [[0, 1], [0, 1, 2]] [⟨0, 3, 2⟩, ⟨1, 2, 1⟩]) = [[0, 1], [1, 2]] by kernel_rfl] at h
theorem two_deny : Sat Try.prog f_clause_Deny [dM twoM, dS [[0, 1], [0, 1, 2]], .sl .lit [⟨0, 3, 2⟩, ⟨1, 2, 1⟩]] (.tup [dS [[0, 1], [0]], dI 0]) := by
  have h := clause_Deny_ok twoM [[0, 1], [0, 1, 2]] [⟨0, 3, 2⟩, ⟨1, 2, 1⟩]
  rwa [show rdyC twoM [[0, 1], [0, 1, 2]] [⟨0, 3, 2⟩, ⟨1, 2, 1⟩] = 0 by kernel_rfl, show orS 0 (denyC [[0, 1], [0, 1, 2]] [⟨0, 3, 2⟩, ⟨1, 2, 1⟩]) = [[0, 1], [0]] by kernel_rfl] at h
theorem two_ccheck : Sat Try.prog f_clause_Check [dM twoM, .sl .lit [⟨0, 3, 2⟩, ⟨1, 2, 1⟩]] (dI 0) := by
  have h := clause_Check_ok twoM [⟨0, 3, 2⟩, ⟨1, 2, 1⟩]
  rwa [show chkC twoM [⟨0, 3, 2⟩, ⟨1, 2, 1⟩] = 0 by kernel_rfl] at h
theorem cordonlaw_clauseBegun_ok : Sat Try.prog f_cordonlaw_clauseBegun [] (dB true) :=
  cordonlaw_clauseBegun_sat fun ok => by
    rw [cordonlaw_clauseBegun_eq]
    exact call1 cordonlaw_two_ok (call2 (t := .bool) (u := .int) two_cholds (call1 cordonlaw_two_ok (call2 (t := .list (.list .int)) (u := .int) two_unit (call1 cordonlaw_two_ok (call2 (t := .list (.list .int)) (u := .int) two_deny (call1 cordonlaw_two_ok (call1 two_ccheck (call1 (cordonref_SameStore_ok _ _) (call1 (cordonref_SameStore_ok _ _) rfl)))))))))
theorem cordonlaw_ClauseKeeps_ok (m : MdlD) (s : List (List Int)) (c : List LitD) (vs : List Int) : Sat Try.prog f_cordonlaw_ClauseKeeps [dM m, dS s, .sl .lit c, .sl .int vs] (dB true) :=
  cordonlaw_ClauseKeeps_sat m s c vs fun ok => by
    rw [cordonlaw_ClauseKeeps_eq]
    refine call2 (t := .list (.list .int)) (u := .int) (clause_Unit_ok m s c) (call2 (t := .list (.list .int)) (u := .int) (clause_Deny_ok m s c) (call1 cordonlaw_clauseBegun_ok ?_))
    by_cases h : rdyC m s c = 0
    · have hz := rdyC_zero h
      have hl := storeE_len hz.2.1
      have hcl : ∀ l ∈ c, 0 ≤ l.var ∧ l.var < s.length := fun l hl' => by have := (litE_zero.1 ((clauseE_zero hz.2.2).2 l hl')).1; omega
      refine dnf h (call2 (t := .bool) (u := .int) (clause_Holds_ok m c vs) (dnf h ?_))
      rw [orS0 h, orS0 h]
      refine sel_intro (fun e => ?_) fun e => ?_
      · rw [decide_eq_true h]
      have e := ne0_false e
      rw [orB0 e]
      refine call1 (cordonlaw_has_ok s vs) (sel_intro (fun f => ?_) fun f => ?_)
      · rw [decide_eq_true h]
      have f : hasV s vs = true := by simpa using f
      refine sel_intro (fun g => call1 (cordonlaw_has_ok _ _) ?_) fun g => call1 (cordonlaw_has_ok _ _) (bt (unit_has hcl f (by simpa using g)) (call1 (cordonlaw_has_ok _ _) ?_))
      · rw [deny_has hcl f, beq_self_eq_true]
      · rw [deny_has hcl f, beq_self_eq_true]
    · refine dnt h (dt rfl ?_)
      rw [orS1 h, orS1 h]; rfl
end Go.Proofs.Ytonkbljpcgadlaa
