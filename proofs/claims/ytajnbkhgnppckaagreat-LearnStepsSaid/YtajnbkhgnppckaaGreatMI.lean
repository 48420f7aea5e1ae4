/- Texts of this proof, one behind the other: nothing is handed in but what is proved here; no condition. -/
import Derived.Test.YtajnbkhgnppckaaGreatMH
import Derived.Test.YtajnbkhgnppckaaGreatWProof
/- What the program's calls of proofs answer, and the document's. -/
namespace Go.Proofs.YtajnbkhgnppckaaGreat
open Go.RowKit
set_option linter.unusedVariables false
set_option linter.unusedSimpArgs false

/-! ### In plain words -/
noncomputable def byCon (m : MdlD) (con : Int) (c : List LitD) : Bool := failS (filterS (conAt m con) (denyC (fullS m) c))
noncomputable def byUnit (m : MdlD) (l : List (List LitD)) (c : List LitD) : Bool := failS (runS m false l (denyC (fullS m) c))
noncomputable def stepB (m : MdlD) (all : List (List LitD)) (st : StepD) : Bool := if st.kind = 1 then byCon m st.con st.clause else if st.kind = 2 then decide (st.con = 0) && byUnit m all st.clause else false
noncomputable def rightS (m : MdlD) : List (List LitD) → List StepD → Bool
  | _, [] => true
  | all, st :: l => stepB m all st && rightS m (all ++ [st.clause]) l
theorem fullS_len {m : MdlD} : (fullS m).length = m.vars.length := List.length_map ..
theorem fullS_at {m : MdlD} {v : Nat} (hv : v < m.vars.length) : (fullS m).getD v [] = fullV m.vars[v] := by
  rw [getD_at _ (by rw [fullS_len]; exact hv)]; simp [fullS]
theorem fullV_mem {v : VarD} {n : Int} : n ∈ fullV v ↔ v.lo ≤ n ∧ n ≤ v.hi := by rw [fullV, upL_mem]; omega
theorem storeE_full {m : MdlD} : storeE m (fullS m) = 0 := by
  refine storeE_zero.2 ⟨fullS_len, fun v n hn => ?_, fun l hl => ?_⟩
  · by_cases hv : v < m.vars.length
    · rw [fullS_at hv, fullV_mem] at hn
      rw [getD_at _ hv]; exact hn
    · rw [getD_out (by rw [fullS_len]; omega)] at hn; cases hn
  · obtain ⟨v, hv, rfl⟩ := List.mem_map.1 hl
    exact upL_strict
theorem deny_le {s : List (List Int)} {c : List LitD} : leS (denyC s c) s := keepS_le
theorem storeE_deny {m : MdlD} {c : List LitD} : storeE m (denyC (fullS m) c) = 0 := storeE_le storeE_full deny_le
theorem good_deny {m : MdlD} (h : Right m) {c : List LitD} : GoodS (denyC (fullS m) c) m.vars.length := goodS_of h storeE_deny
theorem full_ok {m : MdlD} (hr : Right m) : Sat Tryz.prog f_store_Full [dM m] (dS (fullS m)) := store_Full_ok hr.lohi hr.vars
theorem proof_ByCon_ok {m : MdlD} {con : Int} {c : List LitD} (h : atE m con = 0) : Sat Tryz.prog f_proof_ByCon [dM m, dI con, .sl .lit c] (dB (byCon m con c)) :=
  proof_ByCon_sat m con c fun ok => by
    obtain ⟨hr, hc⟩ := atE_zero h
    have hg := good_deny hr (c := c)
    have hl := hg.len
    rw [proof_ByCon_eq]
    refine call1 (full_ok hr) (call1 (clause_Without_ok _ _) ⟨inb_iff.2 hc, call1 (filter_Raw_ok (c := conAt m con) (by rw [hl]; exact conAt_right h) (by rw [hl]; exact hg)) (call1 (store_Empty_ok _) rfl)⟩)
theorem or0_zero {a b : Int} (h : or0 a b = 0) : a = 0 ∧ b = 0 := by
  by_cases e : a = 0
  · rw [or0_eq e] at h; exact ⟨e, h⟩
  · rw [or0_ne e] at h; exact absurd h e
/-! ### The document -/
theorem cordonref_ConSays_ok {m : MdlD} {con : Int} {c : List LitD} (h : atE m con = 0) (hc : clauseE m.vars.length c = 0) : Sat Tryz.prog f_cordonref_ConSays [dM m, dI con, .sl .lit c] (dB (byCon m con c)) :=
  cordonref_ConSays_sat m con c fun ok => by
    obtain ⟨hr, _⟩ := atE_zero h
    obtain ⟨q1, q2⟩ := clauseE_zero hc
    rw [cordonref_ConSays_eq]
    exact call1 (cordonref_BeginOf_ok hr.lohi hr.vars) (call1 (cordonref_DenyOf_ok q2 fullS_len hr.vars q1) (call1 (cordonref_FilterOf_ok h storeE_deny) (call1 (cordonref_HasFailed_ok _) rfl)))
theorem fixOk_deny {m : MdlD} {l : List (List LitD)} {c : List LitD} (h : checkM m = 0) (hl : l.length ≤ 1000000) (hc : ∀ c ∈ l, clauseE m.vars.length c = 0) : FixOk m (denyC (fullS m) c) l := ⟨h, storeE_deny, hl, hc, rightMC_cl h hc, good_deny (right_of h)⟩
theorem cordonref_UnitSays_ok {m : MdlD} {l : List (List LitD)} {c : List LitD} (h : checkM m = 0) (hl : l.length ≤ 1000000) (hc : ∀ c ∈ l, clauseE m.vars.length c = 0) (hcc : clauseE m.vars.length c = 0) : Sat Tryz.prog f_cordonref_UnitSays [dM m, .sl (.list .lit) l, .sl .lit c] (dB (byUnit m l c)) :=
  cordonref_UnitSays_sat m l c fun ok => by
    have hr := right_of h
    obtain ⟨q1, q2⟩ := clauseE_zero hcc
    rw [cordonref_UnitSays_eq]
    exact call1 (cordonref_BeginOf_ok hr.lohi hr.vars) (call1 (cordonref_DenyOf_ok q2 fullS_len hr.vars q1) (call1 (cordonref_FixOf_ok false (fixOk_deny h hl hc)) (call1 (cordonref_HasFailed_ok _) rfl)))
/-! ### Steps -/
structure StepsOk (m : MdlD) (given : List (List LitD)) (l : List StepD) : Prop where
  chk : checkM m = 0
  glen : given.length ≤ 600
  slen : l.length ≤ 6000
  gcl : ∀ c ∈ given, clauseE m.vars.length c = 0
  scl : ∀ s ∈ l, clauseE m.vars.length s.clause = 0
  con : ∀ s ∈ l, s.kind = 1 → 0 ≤ s.con ∧ s.con < (m.cons.length : Int)
def stepConF (m : MdlD) (s : StepD) : Int := if s.kind = 1 ∧ (s.con < 0 ∨ (m.cons.length : Int) ≤ s.con) then 5 else 0
def stepsE (m : MdlD) (given : List (List LitD)) (l : List StepD) : Int :=
  if 600 < given.length ∨ 6000 < l.length then 2 else or0 (rightsE m.vars.length given) (or0 (firstE (fun _ s => clauseE m.vars.length s.clause) 0 l) (firstE (fun _ s => stepConF m s) 0 l))
theorem last_at {l : List StepD} (h : 0 < l.length) : at' .step l ((w64 ((l.length : Int) - 1)).toNat) = l.getD (l.length - 1) ⟨0, 0, []⟩ ∧ inb (w64 ((l.length : Int) - 1)) l.length = true ∨ 9223372036854775807 < l.length := by
  by_cases hb : l.length ≤ 9223372036854775807
  · rw [w64_eq (by omega) (by omega), show ((l.length : Int) - 1).toNat = l.length - 1 by omega]
    exact .inl ⟨rfl, inb_iff.2 (by omega)⟩
  · exact .inr (by omega)
theorem cordonref_CheckSteps_ok {m : MdlD} (h : checkM m = 0) (given : List (List LitD)) (l : List StepD) : Sat Tryz.prog f_cordonref_CheckSteps [dM m, .sl (.list .lit) given, .sl .step l] (dI (stepsE m given l)) :=
  cordonref_CheckSteps_sat m given l fun ok => by
    have hr := right_of h
    have hcl := hr.cons
    rw [cordonref_CheckSteps_eq]
    refine sel_intro (fun f => ?_) fun f => sel_intro (fun g => ?_) fun g => ?_
    · exact dI_of (if_pos (.inl (by simp at f; omega)))
    · exact dI_of (if_pos (.inr (by simp at g; omega)))
    have f : ¬600 < given.length := by simp at f; omega
    have g : ¬6000 < l.length := by simp at g; omega
    rw [stepsE, if_neg (by omega)]
    refine call1 (cordonref_CheckClauses_ok h given) (sel_intro (fun e => ?_) fun e => ?_)
    · exact dI_of (or0_ne (ne0_true e))
    rw [or0_eq (ne0_false e)]
    refine err1 (I := fun n v => cordonref_CheckSteps_I0 m l _ n v) l (fun _ s => clauseE m.vars.length s.clause) (by omega) (X := fun x => D.int .i64 x = dI (or0 (firstE (fun _ s => clauseE m.vars.length s.clause) 0 l) (firstE (fun _ s => stepConF m s) 0 l))) (fun e => by rw [or0_ne e]) (fun n k hk _ hX hn => ?_) fun h0 n => ?_
    · rw [cordonref_CheckSteps_I0_eq, sel_lt hk, at_nat (t := .step) hk]
      exact ⟨inb_nat hk, call1 (cordonref_CheckClause_ok h _) (sel_intro (fun e => hX (ne0_true e)) fun e => hn (ne0_false e))⟩
    · rw [cordonref_CheckSteps_I0_eq, sel_end, or0_eq h0]
      refine err0 (I := fun n v => cordonref_CheckSteps_I2 m l _ n v) l (fun _ s => stepConF m s) (by omega) (X := fun x => D.int .i64 x = dI (firstE (fun _ s => stepConF m s) 0 l)) (Y := D.int .i64 0 = dI (firstE (fun _ s => stepConF m s) 0 l)) (fun _ => rfl) (fun e => dI_of e) (fun n k hk _ hX hn => ?_) fun n hY => ?_
      · rw [cordonref_CheckSteps_I2_eq, sel_lt hk, at_nat (t := .step) hk]
        refine ⟨inb_nat hk, sel_intro (fun e => ⟨inb_nat hk, call1 (cordonref_between_ok _ _ _) (sel_intro (fun f => ?_) fun f => ?_)⟩) fun e => ?_⟩
        · have e := of_decide_eq_true e
          have f : inR l[k].con 0 (w64 ((m.cons.length : Int) - 1)) = false := by simpa using f
          rw [w64_eq (by omega) (by omega), inR_false] at f
          rw [stepConF, if_pos ⟨e, by omega⟩] at hX; exact hX (by decide)
        · have f : inR l[k].con 0 (w64 ((m.cons.length : Int) - 1)) = true := by simpa using f
          rw [w64_eq (by omega) (by omega), inR_true] at f
          exact hn (if_neg fun x => by omega)
        · exact hn (if_neg fun x => of_decide_eq_false e x.1)
      · rw [cordonref_CheckSteps_I2_eq, sel_end]; exact hY
theorem cordonref_StepsRight_ok {m : MdlD} {given : List (List LitD)} {l : List StepD} (hk : StepsOk m given l) : Sat Tryz.prog f_cordonref_StepsRight [dM m, .sl (.list .lit) given, .sl .step l] (dB (rightS m given l)) :=
  cordonref_StepsRight_sat m given l fun ok => by
    have hg := hk.glen
    have hsl := hk.slen
    rw [cordonref_StepsRight_eq]
    refine ⟨room_of (t := .list .lit) (by show (0 + _) * 24 ≤ _; omega), ?_⟩
    rw [List.nil_append]
    refine up (I := fun n v a => cordonref_StepsRight_I0 m l _ n v a) 0 l.length rfl (Nat.zero_le _) (by omega) (fun k a => a.length = given.length + k ∧ (∀ c ∈ a, clauseE m.vars.length c = 0) ∧ rightS m given l = rightS m a (l.drop k)) ⟨rfl, hk.gcl, rfl⟩ fun n k a _ hk2 ha hn => ?_
    obtain ⟨h1, h2, h3⟩ := ha
    rw [cordonref_StepsRight_I0_eq]
    by_cases h : k < l.length
    · rw [sel_lt h, at_nat (t := .step) h]
      have hm := List.getElem_mem h
      have hcl := hk.scl _ hm
      have hcon := hk.con _ hm
      rw [List.drop_eq_getElem_cons h, rightS] at h3
      have hroom : room (.list .lit) (a.length + ([l[k].clause]).length) = true := room_of (t := .list .lit) (by show (_ + 1) * 24 ≤ _; omega)
      have hno : stepB m a l[k] = false → D.bool false = dB (rightS m given l) := fun f => by rw [h3, f]; rfl
      have hyes : stepB m a l[k] = true → room (.list .lit) (a.length + ([l[k].clause]).length) = true ∧ cordonref_StepsRight_I0 m l (fun d => d = dB (rightS m given l)) n (w64 ((k : Int) + 1)) (a ++ [l[k].clause]) := fun f => by
        rw [f, Bool.true_and] at h3
        refine ⟨hroom, hn h _ ⟨?_, fun c hc => ?_, h3⟩⟩
        · rw [List.length_append, h1]; rfl
        · rcases List.mem_append.1 hc with hc | hc
          · exact h2 c hc
          · rw [List.mem_singleton.1 hc]; exact hcl
      generalize l[k] = st at *
      refine ⟨inb_nat h, sel_intro (fun e => ?_) fun e => ?_⟩
      · have e := of_decide_eq_true e
        have hs : stepB m a st = byCon m st.con st.clause := if_pos e
        refine call1 (cordonref_ConSays_ok (atE_of hk.chk (hcon e)) hcl) (sel_intro (fun f => hyes (by rw [hs]; exact f)) fun f => df (by omega) (hno (by rw [hs]; exact f)))
      · have e := of_decide_eq_false e
        refine sel_intro (fun f => sel_intro (fun g => ?_) fun g => ?_) fun f => ?_
        · have hs : stepB m a st = byUnit m a st.clause := by rw [stepB, if_neg e, if_pos (of_decide_eq_true f), g, Bool.true_and]
          exact call1 (cordonref_UnitSays_ok hk.chk (by omega) h2 hcl) (sel_intro (fun x => hno (by rw [hs]; simpa using x)) fun x => hyes (by rw [hs]; simpa using x))
        · exact hno (by rw [stepB, if_neg e, if_pos (of_decide_eq_true f), g, Bool.false_and])
        · exact hno (by rw [stepB, if_neg e, if_neg (of_decide_eq_false f)])
    · have hk' : k = l.length := by omega
      subst hk'
      rw [List.drop_length] at h3
      rw [sel_end, h3]; rfl
end Go.Proofs.YtajnbkhgnppckaaGreat

/- The laws of proofs. -/
namespace Go.Proofs.YtajnbkhgnppckaaGreat
open Go.RowKit
set_option linter.unusedVariables false
set_option linter.unusedSimpArgs false

end Go.Proofs.YtajnbkhgnppckaaGreat
