/- Texts of this proof, one behind the other: nothing is handed in but what is proved here; no condition. -/
import Derived.Test.YtajnbkhgnppckaaGreatMH
import Derived.Test.YtajnbkhgnppckaaGreatWProof
/- What the program's calls of proofs answer, and the document's. -/
namespace Go.Proofs.YtajnbkhgnppckaaGreat
open Go.RowKit
set_option linter.unusedVariables false
set_option linter.unusedSimpArgs false

/-! ### In plain words -/
noncomputable def byCon (m : MdlD) (con : Int) (c : List LitD) : Bool := failS (filterS (conAt m con) (denyC (fullS m) c))
noncomputable def byUnit (m : MdlD) (l : List (List LitD)) (c : List LitD) : Bool := failS (runS m false l (denyC (fullS m) c))
noncomputable def stepB (m : MdlD) (all : List (List LitD)) (st : StepD) : Bool := if st.kind = 1 then byCon m st.con st.clause else if st.kind = 2 then decide (st.con = 0) && byUnit m all st.clause else false
noncomputable def rightS (m : MdlD) : List (List LitD) → List StepD → Bool
  | _, [] => true
  | all, st :: l => stepB m all st && rightS m (all ++ [st.clause]) l
theorem fullS_len {m : MdlD} : (fullS m).length = m.vars.length := List.length_map ..
theorem fullS_at {m : MdlD} {v : Nat} (hv : v < m.vars.length) : (fullS m).getD v [] = fullV m.vars[v] := by
  rw [getD_at _ (by rw [fullS_len]; exact hv)]; simp [fullS]
theorem fullV_mem {v : VarD} {n : Int} : n ∈ fullV v ↔ v.lo ≤ n ∧ n ≤ v.hi := by rw [fullV, upL_mem]; omega
theorem storeE_full {m : MdlD} : storeE m (fullS m) = 0 := by
  refine storeE_zero.2 ⟨fullS_len, fun v n hn => ?_, fun l hl => ?_⟩
  · by_cases hv : v < m.vars.length
    · rw [fullS_at hv, fullV_mem] at hn
      rw [getD_at _ hv]; exact hn
    · rw [getD_out (by rw [fullS_len]; omega)] at hn; cases hn
  · obtain ⟨v, hv, rfl⟩ := List.mem_map.1 hl
    exact upL_strict
theorem deny_le {s : List (List Int)} {c : List LitD} : leS (denyC s c) s := keepS_le
theorem storeE_deny {m : MdlD} {c : List LitD} : storeE m (denyC (fullS m) c) = 0 := storeE_le storeE_full deny_le
theorem good_deny {m : MdlD} (h : Right m) {c : List LitD} : GoodS (denyC (fullS m) c) m.vars.length := goodS_of h storeE_deny
theorem full_ok {m : MdlD} (hr : Right m) : Sat Tryz.prog f_store_Full [dM m] (dS (fullS m)) := store_Full_ok hr.lohi hr.vars
theorem proof_ByCon_ok {m : MdlD} {con : Int} {c : List LitD} (h : atE m con = 0) : Sat Tryz.prog f_proof_ByCon [dM m, dI con, .sl .lit c] (dB (byCon m con c)) :=
  proof_ByCon_sat m con c fun ok => by
    obtain ⟨hr, hc⟩ := atE_zero h
    have hg := good_deny hr (c := c)
    have hl := hg.len
    rw [proof_ByCon_eq]
    refine call1 (full_ok hr) (call1 (clause_Without_ok _ _) ⟨inb_iff.2 hc, call1 (filter_Raw_ok (c := conAt m con) (by rw [hl]; exact conAt_right h) (by rw [hl]; exact hg)) (call1 (store_Empty_ok _) rfl)⟩)
theorem or0_zero {a b : Int} (h : or0 a b = 0) : a = 0 ∧ b = 0 := by
  by_cases e : a = 0
  · rw [or0_eq e] at h; exact ⟨e, h⟩
  · rw [or0_ne e] at h; exact absurd h e
/-! ### Steps -/
structure StepsOk (m : MdlD) (given : List (List LitD)) (l : List StepD) : Prop where
  chk : checkM m = 0
  glen : given.length ≤ 600
  slen : l.length ≤ 6000
  gcl : ∀ c ∈ given, clauseE m.vars.length c = 0
  scl : ∀ s ∈ l, clauseE m.vars.length s.clause = 0
  con : ∀ s ∈ l, s.kind = 1 → 0 ≤ s.con ∧ s.con < (m.cons.length : Int)
theorem last_at {l : List StepD} (h : 0 < l.length) : at' .step l ((w64 ((l.length : Int) - 1)).toNat) = l.getD (l.length - 1) ⟨0, 0, []⟩ ∧ inb (w64 ((l.length : Int) - 1)) l.length = true ∨ 9223372036854775807 < l.length := by
  by_cases hb : l.length ≤ 9223372036854775807
  · rw [w64_eq (by omega) (by omega), show ((l.length : Int) - 1).toNat = l.length - 1 by omega]
    exact .inl ⟨rfl, inb_iff.2 (by omega)⟩
  · exact .inr (by omega)
end Go.Proofs.YtajnbkhgnppckaaGreat

/- The laws of proofs. -/
namespace Go.Proofs.YtajnbkhgnppckaaGreat
open Go.RowKit
set_option linter.unusedVariables false
set_option linter.unusedSimpArgs false

/-! ### Proofs are sound -/
theorem whole_full {m : MdlD} {vs : List Int} (hl : vs.length = m.vars.length) (h : wholeM m vs = true) : InS vs (fullS m) := by
  refine ⟨by rw [fullS_len, hl], fun v hv => ?_⟩
  rw [fullS_len] at hv
  rw [fullS_at hv, fullV_mem, getD_at _ (show v < vs.length by omega)]
  rw [wholeM, Bool.and_eq_true, Bool.not_eq_true'] at h
  have hz : v < (m.vars.zip vs).length := by rw [List.length_zip]; omega
  have h2 := List.any_eq_false.1 h.1 _ (List.getElem_mem hz)
  rw [List.getElem_zip, Bool.not_eq_true, Bool.not_eq_false'] at h2
  exact inR_true.1 h2
theorem deny_in {s : List (List Int)} {c : List LitD} {vs : List Int} (hv : InS vs s) (hc : ∀ l ∈ c, 0 ≤ l.var) (h : holdsC c vs = false) : InS vs (denyC s c) := by
  refine ⟨hv.1.trans deny_le.1.symm, fun v hl => ?_⟩
  rw [denyC, keepS_length] at hl
  rw [denyC, keepS_getD, List.mem_filter]
  refine ⟨hv.2 v hl, ?_⟩
  rw [Bool.not_eq_true']
  cases e : atC c v (vs.getD v 0)
  · rfl
  · obtain ⟨l, h1, h2, h3⟩ := atC_iff'.1 e
    have : holdsC c vs = true := holdsC_iff.2 ⟨l, h1, by rw [h2, Int.toNat_natCast]; exact h3⟩
    rw [h] at this; cases this
theorem allE_zero {m : MdlD} {vs : List Int} (h : allE m vs = 0) : checkM m = 0 ∧ vs.length = m.vars.length := by
  unfold allE at h
  split at h
  · rename_i h1; exact absurd h h1
  rename_i h1
  split at h
  · exact absurd h (by decide)
  rename_i h2
  exact ⟨Decidable.not_not.1 h1, Decidable.not_not.1 h2⟩
theorem holdE_to {m : MdlD} {c : List LitD} {vs : List Int} (h : checkM m = 0) (h2 : clauseE m.vars.length c = 0) (h3 : vs.length = m.vars.length) : holdE m c vs = 0 := by
  rw [holdE, chkC_2 h, if_neg (not_not_intro h2), if_neg (not_not_intro h3)]
end Go.Proofs.YtajnbkhgnppckaaGreat
