/- Texts of this proof, one behind the other: nothing is handed in but what is proved here; no condition. -/
import Derived.Test.YtgnjdgafkjohaaaGreatMH
import Derived.Test.YtgnjdgafkjohaaaGreatWProof
/- What the program's calls of proofs answer, and the document's. -/
namespace Go.Proofs.YtgnjdgafkjohaaaGreat
open Go.RowKit
set_option linter.unusedVariables false
set_option linter.unusedSimpArgs false

/-! ### In plain words -/
noncomputable def byCon (m : MdlD) (con : Int) (c : List LitD) : Bool := failS (filterS (conAt m con) (denyC (fullS m) c))
theorem fullS_len {m : MdlD} : (fullS m).length = m.vars.length := List.length_map ..
theorem fullS_at {m : MdlD} {v : Nat} (hv : v < m.vars.length) : (fullS m).getD v [] = fullV m.vars[v] := by
  rw [getD_at _ (by rw [fullS_len]; exact hv)]; simp [fullS]
theorem fullV_mem {v : VarD} {n : Int} : n ∈ fullV v ↔ v.lo ≤ n ∧ n ≤ v.hi := by rw [fullV, upL_mem]; omega
theorem storeE_full {m : MdlD} : storeE m (fullS m) = 0 := by
  refine storeE_zero.2 ⟨fullS_len, fun v n hn => ?_, fun l hl => ?_⟩
  · by_cases hv : v < m.vars.length
    · rw [fullS_at hv, fullV_mem] at hn
      rw [getD_at _ hv]; exact hn
    · rw [getD_out (by rw [fullS_len]; omega)] at hn; cases hn
  · obtain ⟨v, hv, rfl⟩ := List.mem_map.1 hl
    exact upL_strict
theorem deny_le {s : List (List Int)} {c : List LitD} : leS (denyC s c) s := keepS_le
theorem storeE_deny {m : MdlD} {c : List LitD} : storeE m (denyC (fullS m) c) = 0 := storeE_le storeE_full deny_le
theorem good_deny {m : MdlD} (h : Right m) {c : List LitD} : GoodS (denyC (fullS m) c) m.vars.length := goodS_of h storeE_deny
theorem full_ok {m : MdlD} (hr : Right m) : Sat Tryz.prog f_store_Full [dM m] (dS (fullS m)) := store_Full_ok hr.lohi hr.vars
theorem proof_ByCon_ok {m : MdlD} {con : Int} {c : List LitD} (h : atE m con = 0) : Sat Tryz.prog f_proof_ByCon [dM m, dI con, .sl .lit c] (dB (byCon m con c)) :=
  proof_ByCon_sat m con c fun ok => by
    obtain ⟨hr, hc⟩ := atE_zero h
    have hg := good_deny hr (c := c)
    have hl := hg.len
    rw [proof_ByCon_eq]
    refine call1 (full_ok hr) (call1 (clause_Without_ok _ _) ⟨inb_iff.2 hc, call1 (filter_Raw_ok (c := conAt m con) (by rw [hl]; exact conAt_right h) (by rw [hl]; exact hg)) (call1 (store_Empty_ok _) rfl)⟩)
/-! ### Steps -/
structure StepsOk (m : MdlD) (given : List (List LitD)) (l : List StepD) : Prop where
  chk : checkM m = 0
  glen : given.length ≤ 600
  slen : l.length ≤ 6000
  gcl : ∀ c ∈ given, clauseE m.vars.length c = 0
  scl : ∀ s ∈ l, clauseE m.vars.length s.clause = 0
  con : ∀ s ∈ l, s.kind = 1 → 0 ≤ s.con ∧ s.con < (m.cons.length : Int)
end Go.Proofs.YtgnjdgafkjohaaaGreat

/- The laws of proofs. -/
namespace Go.Proofs.YtgnjdgafkjohaaaGreat
open Go.RowKit
set_option linter.unusedVariables false
set_option linter.unusedSimpArgs false

theorem byCon_B {m : MdlD} {con : Int} {c : List LitD} (h : atE m con = 0) : byCon m con c = failS (filterB (conAt m con) (denyC (fullS m) c)) := by
  rw [byCon, filterS_B]
  rw [deny_le.1, fullS_len]
  exact conAt_right h
theorem two_at : atE twoM 0 = 0 := by kernel_rfl
/-! ### Proofs are sound -/
theorem deny_in {s : List (List Int)} {c : List LitD} {vs : List Int} (hv : InS vs s) (hc : ∀ l ∈ c, 0 ≤ l.var) (h : holdsC c vs = false) : InS vs (denyC s c) := by
  refine ⟨hv.1.trans deny_le.1.symm, fun v hl => ?_⟩
  rw [denyC, keepS_length] at hl
  rw [denyC, keepS_getD, List.mem_filter]
  refine ⟨hv.2 v hl, ?_⟩
  rw [Bool.not_eq_true']
  cases e : atC c v (vs.getD v 0)
  · rfl
  · obtain ⟨l, h1, h2, h3⟩ := atC_iff'.1 e
    have : holdsC c vs = true := holdsC_iff.2 ⟨l, h1, by rw [h2, Int.toNat_natCast]; exact h3⟩
    rw [h] at this; cases this
theorem byCon_sound {m : MdlD} {con : Int} {c : List LitD} (h : atE m con = 0) (hc : clauseE m.vars.length c = 0) {vs : List Int} (hv : InS vs (fullS m)) (ht : trueC (conAt m con) vs = true) (hb : byCon m con c = true) : holdsC c vs = true := by
  cases e : holdsC c vs with
  | true => rfl
  | false =>
    obtain ⟨hr, _⟩ := atE_zero h
    have hd := deny_in hv (fun l hl => (litE_zero.1 ((clauseE_zero hc).2 l hl)).1.1) e
    have hop := filter_op (conAt_right h) (by have := hr.some; omega)
    have := (hop.keeps (deny_le.1.trans fullS_len) hd ht).fail
    rw [byCon, this] at hb; cases hb
theorem holdE_to {m : MdlD} {c : List LitD} {vs : List Int} (h : checkM m = 0) (h2 : clauseE m.vars.length c = 0) (h3 : vs.length = m.vars.length) : holdE m c vs = 0 := by
  rw [holdE, chkC_2 h, if_neg (not_not_intro h2), if_neg (not_not_intro h3)]
end Go.Proofs.YtgnjdgafkjohaaaGreat
