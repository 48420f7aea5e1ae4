/- Texts of this proof, one behind the other: nothing is handed in but what is proved here; no condition. -/
import Derived.Test.YtgnjdgafkjohaaaGreatMH
import Derived.Test.YtgnjdgafkjohaaaGreatWProof
/- What the program's calls of proofs answer, and the document's. -/
namespace Go.Proofs.YtgnjdgafkjohaaaGreat
open Go.RowKit
set_option linter.unusedVariables false
set_option linter.unusedSimpArgs false

/-! ### In plain words -/
noncomputable def byCon (m : MdlD) (con : Int) (c : List LitD) : Bool := failS (filterS (conAt m con) (denyC (fullS m) c))
noncomputable def byUnit (m : MdlD) (l : List (List LitD)) (c : List LitD) : Bool := failS (runS m false l (denyC (fullS m) c))
noncomputable def stepB (m : MdlD) (all : List (List LitD)) (st : StepD) : Bool := if st.kind = 1 then byCon m st.con st.clause else if st.kind = 2 then decide (st.con = 0) && byUnit m all st.clause else false
noncomputable def rightS (m : MdlD) : List (List LitD) → List StepD → Bool
  | _, [] => true
  | all, st :: l => stepB m all st && rightS m (all ++ [st.clause]) l
def lastEmpty (l : List StepD) : Bool := decide (0 < l.length) && decide (((l.getD (l.length - 1) ⟨0, 0, []⟩).clause).length = 0)
noncomputable def proofB (m : MdlD) (given : List (List LitD)) (l : List StepD) : Bool := rightS m given l && lastEmpty l
theorem fullS_len {m : MdlD} : (fullS m).length = m.vars.length := List.length_map ..
theorem fullS_at {m : MdlD} {v : Nat} (hv : v < m.vars.length) : (fullS m).getD v [] = fullV m.vars[v] := by
  rw [getD_at _ (by rw [fullS_len]; exact hv)]; simp [fullS]
theorem fullV_mem {v : VarD} {n : Int} : n ∈ fullV v ↔ v.lo ≤ n ∧ n ≤ v.hi := by rw [fullV, upL_mem]; omega
theorem storeE_full {m : MdlD} : storeE m (fullS m) = 0 := by
  refine storeE_zero.2 ⟨fullS_len, fun v n hn => ?_, fun l hl => ?_⟩
  · by_cases hv : v < m.vars.length
    · rw [fullS_at hv, fullV_mem] at hn
      rw [getD_at _ hv]; exact hn
    · rw [getD_out (by rw [fullS_len]; omega)] at hn; cases hn
  · obtain ⟨v, hv, rfl⟩ := List.mem_map.1 hl
    exact upL_strict
theorem deny_le {s : List (List Int)} {c : List LitD} : leS (denyC s c) s := keepS_le
theorem storeE_deny {m : MdlD} {c : List LitD} : storeE m (denyC (fullS m) c) = 0 := storeE_le storeE_full deny_le
theorem good_deny {m : MdlD} (h : Right m) {c : List LitD} : GoodS (denyC (fullS m) c) m.vars.length := goodS_of h storeE_deny
theorem full_ok {m : MdlD} (hr : Right m) : Sat Tryz.prog f_store_Full [dM m] (dS (fullS m)) := store_Full_ok hr.lohi hr.vars
theorem proof_ByCon_ok {m : MdlD} {con : Int} {c : List LitD} (h : atE m con = 0) : Sat Tryz.prog f_proof_ByCon [dM m, dI con, .sl .lit c] (dB (byCon m con c)) :=
  proof_ByCon_sat m con c fun ok => by
    obtain ⟨hr, hc⟩ := atE_zero h
    have hg := good_deny hr (c := c)
    have hl := hg.len
    rw [proof_ByCon_eq]
    refine call1 (full_ok hr) (call1 (clause_Without_ok _ _) ⟨inb_iff.2 hc, call1 (filter_Raw_ok (c := conAt m con) (by rw [hl]; exact conAt_right h) (by rw [hl]; exact hg)) (call1 (store_Empty_ok _) rfl)⟩)
theorem proof_ByUnit_ok {m : MdlD} {l : List (List LitD)} {c : List LitD} (h : RightMC m l) (hl : l.length ≤ 1000000000) : Sat Tryz.prog f_proof_ByUnit [dM m, .sl (.list .lit) l, .sl .lit c] (dB (byUnit m l c)) :=
  proof_ByUnit_sat m l c fun ok => by
    rw [proof_ByUnit_eq]
    exact call1 (full_ok h.right) (call1 (clause_Without_ok _ _) (call1 (fix_Run_ok h (good_deny h.right) hl) (call1 (store_Empty_ok _) rfl)))
def conPE (m : MdlD) (con : Int) (c : List LitD) : Int := if atE m con ≠ 0 then atE m con else clauseE m.vars.length c
theorem conPE_1 {m : MdlD} {con : Int} {c : List LitD} (h : atE m con ≠ 0) : conPE m con c = atE m con := if_pos h
theorem conPE_2 {m : MdlD} {con : Int} {c : List LitD} (h : atE m con = 0) : conPE m con c = clauseE m.vars.length c := if_neg (not_not_intro h)
theorem conPE_zero {m : MdlD} {con : Int} {c : List LitD} (h : conPE m con c = 0) : atE m con = 0 ∧ clauseE m.vars.length c = 0 := by
  by_cases h1 : atE m con = 0
  · rw [conPE_2 h1] at h; exact ⟨h1, h⟩
  · rw [conPE_1 h1] at h; exact absurd h h1
theorem atE_1 {m : MdlD} {con : Int} (h : checkM m ≠ 0) : atE m con = checkM m := if_pos h
theorem atE_2 {m : MdlD} {con : Int} (h : checkM m = 0) (h2 : con < 0 ∨ (m.cons.length : Int) ≤ con) : atE m con = 5 := by rw [atE, if_neg (not_not_intro h), if_pos h2]
theorem proof_Con_ok (m : MdlD) (con : Int) (c : List LitD) : Sat Tryz.prog f_proof_Con [dM m, dI con, .sl .lit c] (.tup [dB (orB (conPE m con c) (byCon m con c)), dI (conPE m con c)]) :=
  proof_Con_sat m con c fun ok => by
    rw [proof_Con_eq]
    refine call1 (model_Check_ok m) (sel_intro (fun e => ?_) fun e => ?_)
    · have e := ne0_true e
      rw [conPE_1 (by rw [atE_1 e]; exact e), atE_1 e, orB1 e]
    have e := ne0_false e
    refine sel_intro (fun f => ?_) fun f => sel_intro (fun g => ?_) fun g => ?_
    · have a := atE_2 e (.inl (of_decide_eq_true f))
      rw [conPE_1 (by rw [a]; decide), a]; rfl
    · have a := atE_2 e (.inr (of_decide_eq_true g))
      rw [conPE_1 (by rw [a]; decide), a]; rfl
    · have f := of_decide_eq_false f
      have g := of_decide_eq_false g
      have a := atE_of e (con := con) (by omega)
      rw [conPE_2 a]
      refine call1 (clause_Right_ok m c) (sel_intro (fun e => ?_) fun e => ?_)
      · rw [orB1 (ne0_true e)]
      · rw [orB0 (ne0_false e), ne0_false e]
        exact call1 (proof_ByCon_ok a) rfl
def unitPE (m : MdlD) (l : List (List LitD)) (c : List LitD) : Int := or0 (checkM m) (or0 (rightsE m.vars.length l) (clauseE m.vars.length c))
theorem or0_zero {a b : Int} (h : or0 a b = 0) : a = 0 ∧ b = 0 := by
  by_cases e : a = 0
  · rw [or0_eq e] at h; exact ⟨e, h⟩
  · rw [or0_ne e] at h; exact absurd h e
theorem proof_Unit_ok (m : MdlD) (l : List (List LitD)) (c : List LitD) : Sat Tryz.prog f_proof_Unit [dM m, .sl (.list .lit) l, .sl .lit c] (.tup [dB (orB (unitPE m l c) (byUnit m l c)), dI (unitPE m l c)]) :=
  proof_Unit_sat m l c fun ok => by
    rw [proof_Unit_eq]
    refine call1 (model_Check_ok m) ?_
    by_cases h1 : checkM m = 0
    · refine dt h1 (call1 (fix_Rights_ok m l) ?_)
      by_cases h2 : rightsE m.vars.length l = 0
      · refine dt h2 (call1 (clause_Right_ok m c) ?_)
        have e : unitPE m l c = clauseE m.vars.length c := by rw [unitPE, or0_eq h1, or0_eq h2]
        rw [e]
        refine sel_intro (fun e => ?_) fun e => ?_
        · rw [orB1 (ne0_true e)]
        · obtain ⟨h3, h4⟩ := rightsE_zero h2
          rw [orB0 (ne0_false e), ne0_false e]
          exact call1 (proof_ByUnit_ok (rightMC_cl h1 h4) (by omega)) rfl
      · have e : unitPE m l c = rightsE m.vars.length l := by rw [unitPE, or0_eq h1, or0_ne h2]
        refine df h2 (dnt h2 ?_)
        rw [e, orB1 h2]
    · have e : unitPE m l c = checkM m := by rw [unitPE, or0_ne h1]
      refine df h1 (df h1 (dnt h1 ?_))
      rw [e, orB1 h1]
/-! ### Steps -/
structure StepsOk (m : MdlD) (given : List (List LitD)) (l : List StepD) : Prop where
  chk : checkM m = 0
  glen : given.length ≤ 600
  slen : l.length ≤ 6000
  gcl : ∀ c ∈ given, clauseE m.vars.length c = 0
  scl : ∀ s ∈ l, clauseE m.vars.length s.clause = 0
  con : ∀ s ∈ l, s.kind = 1 → 0 ≤ s.con ∧ s.con < (m.cons.length : Int)
def stepConF (m : MdlD) (s : StepD) : Int := if s.kind = 1 ∧ (s.con < 0 ∨ (m.cons.length : Int) ≤ s.con) then 5 else 0
def stepsE (m : MdlD) (given : List (List LitD)) (l : List StepD) : Int :=
  if 600 < given.length ∨ 6000 < l.length then 2 else or0 (rightsE m.vars.length given) (or0 (firstE (fun _ s => clauseE m.vars.length s.clause) 0 l) (firstE (fun _ s => stepConF m s) 0 l))
def chkP (m : MdlD) (given : List (List LitD)) (l : List StepD) : Int := or0 (checkM m) (stepsE m given l)
theorem stepsOk_of {m : MdlD} {given : List (List LitD)} {l : List StepD} (h : checkM m = 0) (h2 : stepsE m given l = 0) : StepsOk m given l := by
  unfold stepsE at h2
  split at h2
  · exact absurd h2 (by decide)
  rename_i h3
  obtain ⟨h4, h5⟩ := or0_zero h2
  obtain ⟨h6, h7⟩ := or0_zero h5
  obtain ⟨h8, h9⟩ := rightsE_zero h4
  refine ⟨h, h8, by omega, h9, fun s hs => ?_, fun s hs hk => ?_⟩
  · obtain ⟨i, hi, rfl⟩ := List.getElem_of_mem hs
    exact firstE_idx h6 hi
  · obtain ⟨i, hi, rfl⟩ := List.getElem_of_mem hs
    have := firstE_idx h7 hi
    simp only [stepConF, hk, true_and] at this
    split at this
    · exact absurd this (by decide)
    · omega
theorem chkP_zero {m : MdlD} {given : List (List LitD)} {l : List StepD} (h : chkP m given l = 0) : StepsOk m given l := let ⟨a, b⟩ := or0_zero h; stepsOk_of a b
theorem proof_ready_ok (m : MdlD) (given : List (List LitD)) (l : List StepD) : Sat Tryz.prog f_proof_ready [dM m, .sl (.list .lit) given, .sl .step l] (dI (chkP m given l)) :=
  proof_ready_sat m given l fun ok => by
    rw [proof_ready_eq]
    refine call1 (model_Check_ok m) (sel_intro (fun e => ?_) fun e => ?_)
    · exact dI_of (or0_ne (ne0_true e))
    rw [chkP, or0_eq (ne0_false e)]
    refine sel_intro (fun f => ?_) fun f => sel_intro (fun g => ?_) fun g => ?_
    · exact dI_of (if_pos (.inl (by simp at f; omega)))
    · exact dI_of (if_pos (.inr (by simp at g; omega)))
    have f : ¬600 < given.length := by simp at f; omega
    have g : ¬6000 < l.length := by simp at g; omega
    rw [stepsE, if_neg (by omega)]
    refine call1 (fix_Rights_ok m given) (sel_intro (fun e => ?_) fun e => ?_)
    · exact dI_of (or0_ne (ne0_true e))
    rw [or0_eq (ne0_false e)]
    refine err1 (I := fun n v => proof_ready_I0 m l _ n v) l (fun _ s => clauseE m.vars.length s.clause) (by omega) (X := fun x => D.int .i64 x = dI (or0 (firstE (fun _ s => clauseE m.vars.length s.clause) 0 l) (firstE (fun _ s => stepConF m s) 0 l))) (fun e => by rw [or0_ne e]) (fun n k h _ hX hn => ?_) fun h0 n => ?_
    · rw [proof_ready_I0_eq, sel_lt h, at_nat (t := .step) h]
      exact ⟨inb_nat h, call1 (clause_Right_ok m _) (sel_intro (fun e => hX (ne0_true e)) fun e => hn (ne0_false e))⟩
    · rw [proof_ready_I0_eq, sel_end, or0_eq h0]
      refine err0 (I := fun n v => proof_ready_I2 m l _ n v) l (fun _ s => stepConF m s) (by omega) (X := fun x => D.int .i64 x = dI (firstE (fun _ s => stepConF m s) 0 l)) (Y := D.int .i64 0 = dI (firstE (fun _ s => stepConF m s) 0 l)) (fun _ => rfl) (fun e => dI_of e) (fun n k h _ hX hn => ?_) fun n hY => ?_
      · rw [proof_ready_I2_eq, sel_lt h, at_nat (t := .step) h]
        refine ⟨inb_nat h, sel_intro (fun e => sel_intro (fun f => ?_) fun f => sel_intro (fun g => ?_) fun g => ?_) fun e => ?_⟩
        · rw [stepConF, if_pos ⟨of_decide_eq_true e, .inl (of_decide_eq_true f)⟩] at hX; exact hX (by decide)
        · rw [stepConF, if_pos ⟨of_decide_eq_true e, .inr (of_decide_eq_true g)⟩] at hX; exact hX (by decide)
        · exact hn (if_neg fun x => by have := of_decide_eq_false f; have := of_decide_eq_false g; omega)
        · exact hn (if_neg fun x => of_decide_eq_false e x.1)
      · rw [proof_ready_I2_eq, sel_end]; exact hY
theorem rightMC_all {m : MdlD} {all : List (List LitD)} (h : checkM m = 0) (hc : ∀ c ∈ all, clauseE m.vars.length c = 0) : RightMC m all := rightMC_cl h hc
abbrev hpC (m : MdlD) (all : List (List LitD)) : List (Nat × HObj) := [(1000, .cells [.sl .var m.vars, .sl .con m.cons, .int .i64 m.goal, .int .i64 m.var, .own 2000]), (2000, .row 54 (.list .lit) all)]
theorem proof_checker_step_ok {m : MdlD} {all : List (List LitD)} {st : StepD} (h : checkM m = 0) (hc : ∀ c ∈ all, clauseE m.vars.length c = 0) (hl : all.length ≤ 10000) (hcon : st.kind = 1 → 0 ≤ st.con ∧ st.con < (m.cons.length : Int)) :
    SatH Tryz.prog f_proof_checker_step [.ptr 1000 0, .agg [.int .i64 st.kind, .int .i64 st.con, .sl .lit st.clause]] (hpC m all) (.bool (stepB m all st)) (hpC m (all ++ [st.clause])) :=
  proof_checker_step_sat m.vars m.cons m.goal m.var all st fun _ _ => by
    have hr : room (.list .lit) (all.length + ([st.clause]).length) = true := room_of (t := .list .lit) (by show (_ + 1) * 24 ≤ _; omega)
    rw [proof_checker_step_eq]
    refine sel_intro (fun e => ?_) fun e => sel_intro (fun f => sel_intro (fun g => ?_) fun g => ?_) fun f => ?_
    · have e := of_decide_eq_true e
      refine call1 (proof_ByCon_ok (atE_of h (hcon e))) ?_
      have hs : stepB m all st = byCon m st.con st.clause := if_pos e
      rw [hs]
      repeat' (first | exact hr | exact rfl | apply And.intro)
    · have e := of_decide_eq_false e
      have f := of_decide_eq_true f
      refine call1 (proof_ByUnit_ok (rightMC_all h hc) (by omega)) ?_
      have hs : stepB m all st = byUnit m all st.clause := by rw [stepB, if_neg e, if_pos f, g, Bool.true_and]
      rw [hs]
      repeat' (first | exact hr | exact rfl | apply And.intro)
    · have e := of_decide_eq_false e
      have f := of_decide_eq_true f
      have hs : stepB m all st = false := by rw [stepB, if_neg e, if_pos f, g, Bool.false_and]
      rw [hs]
      repeat' (first | exact hr | exact rfl | apply And.intro)
    · have hs : stepB m all st = false := by rw [stepB, if_neg (of_decide_eq_false e), if_neg (of_decide_eq_false f)]
      rw [hs]
      repeat' (first | exact hr | exact rfl | apply And.intro)
theorem last_at {l : List StepD} (h : 0 < l.length) : at' .step l ((w64 ((l.length : Int) - 1)).toNat) = l.getD (l.length - 1) ⟨0, 0, []⟩ ∧ inb (w64 ((l.length : Int) - 1)) l.length = true ∨ 9223372036854775807 < l.length := by
  by_cases hb : l.length ≤ 9223372036854775807
  · rw [w64_eq (by omega) (by omega), show ((l.length : Int) - 1).toNat = l.length - 1 by omega]
    exact .inl ⟨rfl, inb_iff.2 (by omega)⟩
  · exact .inr (by omega)
theorem proof_Check_ok (m : MdlD) (given : List (List LitD)) (l : List StepD) : Sat Tryz.prog f_proof_Check [dM m, .sl (.list .lit) given, .sl .step l] (.tup [dB (orB (chkP m given l) (proofB m given l)), dI (chkP m given l)]) :=
  proof_Check_sat m given l fun ok => by
    rw [proof_Check_eq]
    refine call1 (proof_ready_ok m given l) (sel_intro (fun e => ?_) fun e => ?_)
    · rw [orB1 (ne0_true e)]
    have e := ne0_false e
    have hk := chkP_zero e
    have hg := hk.glen
    have hsl := hk.slen
    rw [orB0 e, e]
    refine ⟨room_of (t := .list .lit) (by show _ * 24 ≤ _; omega), ?_⟩
    refine up (I := fun n v a => proof_Check_I0 l _ n v m.vars m.cons m.goal m.var a) 0 l.length rfl (Nat.zero_le _) (by omega) (fun k a => a.length = given.length + k ∧ (∀ c ∈ a, clauseE m.vars.length c = 0) ∧ rightS m given l = rightS m a (l.drop k)) ⟨rfl, hk.gcl, rfl⟩ fun n k a _ hk2 ha hn => ?_
    obtain ⟨h1, h2, h3⟩ := ha
    rw [proof_Check_I0_eq]
    by_cases h : k < l.length
    · rw [sel_lt h, at_nat (t := .step) h]
      have hm := List.getElem_mem h
      refine ⟨inb_nat h, _, _, proof_checker_step_ok hk.chk h2 (by omega) (hk.con _ hm), ?_⟩
      rw [List.drop_eq_getElem_cons h, rightS] at h3
      refine sel_intro (fun f => ?_) fun f => hn h _ ⟨?_, fun c hc => ?_, ?_⟩
      · have f : stepB m a l[k] = false := by simpa using f
        rw [f, Bool.false_and] at h3
        rw [proofB, h3]; rfl
      · rw [List.length_append, h1]; rfl
      · rcases List.mem_append.1 hc with hc | hc
        · exact h2 c hc
        · rw [List.mem_singleton.1 hc]; exact hk.scl _ hm
      · have f : stepB m a l[k] = true := by simpa using f
        rw [f, Bool.true_and] at h3
        exact h3
    · have hk' : k = l.length := by omega
      subst hk'
      rw [List.drop_length] at h3
      have h3 : rightS m given l = true := h3
      rw [sel_end, proofB, h3, Bool.true_and, lastEmpty]
      refine sel_intro (fun f => ?_) fun f => ?_
      · have f : 0 < l.length := by simpa using f
        obtain ⟨q1, q2⟩ := (last_at f).resolve_right (by omega)
        refine ⟨q2, ?_⟩
        rw [q1, decide_eq_true f, Bool.true_and]
        congr 3
        exact decide_eq_decide.2 ⟨fun e => by omega, fun e => by omega⟩
      · have f : ¬0 < l.length := by simpa using f
        rw [decide_eq_false f]; rfl
end Go.Proofs.YtgnjdgafkjohaaaGreat

/- The laws of proofs. -/
namespace Go.Proofs.YtgnjdgafkjohaaaGreat
open Go.RowKit
set_option linter.unusedVariables false
set_option linter.unusedSimpArgs false

theorem byCon_B {m : MdlD} {con : Int} {c : List LitD} (h : atE m con = 0) : byCon m con c = failS (filterB (conAt m con) (denyC (fullS m) c)) := by
  rw [byCon, filterS_B]
  rw [deny_le.1, fullS_len]
  exact conAt_right h
theorem byUnit_B {m : MdlD} {l : List (List LitD)} {c : List LitD} (h : RightMC m l) (k : Nat) (hf : failS (itO (opsB m false l) k (denyC (fullS m) c)) = true) : byUnit m l c = true := by
  have hl : (denyC (fullS m) c).length = m.vars.length := deny_le.1.trans fullS_len
  have hp := h.pos
  rw [byUnit, runS_B0 h hl k hf]
  exact noneS_fail (by omega)
theorem two_at : atE twoM 0 = 0 := by kernel_rfl
theorem two_byCon : byCon twoM 0 [⟨0, 1, 1⟩] = true := by rw [byCon_B two_at]; kernel_rfl
theorem two_mcx : RightMC twoM [[⟨0, 1, 1⟩]] := rightMC_cl (by kernel_rfl) fun c hc => by rw [List.mem_singleton.1 hc]; kernel_rfl
theorem two_mcy : RightMC twoM [[⟨0, 2, 2⟩], [⟨0, 1, 1⟩]] := rightMC_cl (by kernel_rfl) fun c hc => by
  rcases List.mem_cons.1 hc with rfl | hc
  · kernel_rfl
  · rw [List.mem_singleton.1 hc]; kernel_rfl
theorem two_pcon : Sat Tryz.prog f_proof_Con [dM twoM, dI 0, .sl .lit [⟨0, 1, 1⟩]] (.tup [dB true, dI 0]) := by
  have h := proof_Con_ok twoM 0 [⟨0, 1, 1⟩]
  rwa [show conPE twoM 0 [⟨0, 1, 1⟩] = 0 by kernel_rfl, orB0 rfl, two_byCon] at h
theorem two_punit : Sat Tryz.prog f_proof_Unit [dM twoM, .sl (.list .lit) [[⟨0, 1, 1⟩]], .sl .lit [⟨0, 4, 2⟩]] (.tup [dB true, dI 0]) := by
  have h := proof_Unit_ok twoM [[⟨0, 1, 1⟩]] [⟨0, 4, 2⟩]
  rwa [show unitPE twoM [[⟨0, 1, 1⟩]] [⟨0, 4, 2⟩] = 0 by kernel_rfl, orB0 rfl, byUnit_B two_mcx 1 (by kernel_rfl)] at h
theorem two_pcheck1 : Sat Tryz.prog f_proof_Check [dM twoM, .sl (.list .lit) [], .sl .step [⟨1, 0, [⟨0, 1, 1⟩]⟩]] (.tup [dB false, dI 0]) := by
  have h := proof_Check_ok twoM [] [⟨1, 0, [⟨0, 1, 1⟩]⟩]
  rwa [show chkP twoM [] [⟨1, 0, [⟨0, 1, 1⟩]⟩] = 0 by kernel_rfl, orB0 rfl, proofB, show lastEmpty [⟨1, 0, [⟨0, 1, 1⟩]⟩] = false by kernel_rfl, Bool.and_false] at h
theorem two_pcheck2 : Sat Tryz.prog f_proof_Check [dM twoM, .sl (.list .lit) [[⟨0, 2, 2⟩]], .sl .step [⟨1, 0, [⟨0, 1, 1⟩]⟩, ⟨2, 0, []⟩]] (.tup [dB true, dI 0]) := by
  have h := proof_Check_ok twoM [[⟨0, 2, 2⟩]] [⟨1, 0, [⟨0, 1, 1⟩]⟩, ⟨2, 0, []⟩]
  have e : rightS twoM [[⟨0, 2, 2⟩]] [⟨1, 0, [⟨0, 1, 1⟩]⟩, ⟨2, 0, []⟩] = true := by
    rw [rightS, rightS, rightS, Bool.and_true, Bool.and_eq_true]
    constructor
    · show (if (1 : Int) = 1 then byCon twoM 0 [⟨0, 1, 1⟩] else _) = true
      rw [if_pos rfl]; exact two_byCon
    · show (if (2 : Int) = 1 then _ else if (2 : Int) = 2 then decide ((0 : Int) = 0) && byUnit twoM [[⟨0, 2, 2⟩], [⟨0, 1, 1⟩]] [] else false) = true
      rw [if_neg (by decide), if_pos rfl, byUnit_B two_mcy 1 (by kernel_rfl)]; rfl
  rwa [show chkP twoM [[⟨0, 2, 2⟩]] [⟨1, 0, [⟨0, 1, 1⟩]⟩, ⟨2, 0, []⟩] = 0 by kernel_rfl, orB0 rfl, proofB, e, show lastEmpty [⟨1, 0, [⟨0, 1, 1⟩]⟩, ⟨2, 0, []⟩] = true by kernel_rfl] at h
theorem cordonlaw_proofBegun_ok : Sat Tryz.prog f_cordonlaw_proofBegun [] (dB true) :=
  cordonlaw_proofBegun_sat fun ok => by
    rw [cordonlaw_proofBegun_eq]
    exact call1 cordonlaw_two_ok (call2 (t := .bool) (u := .int) two_pcon (call1 cordonlaw_two_ok (call2 (t := .bool) (u := .int) two_punit (call1 cordonlaw_two_ok (call2 (t := .bool) (u := .int) two_pcheck1 (call1 cordonlaw_two_ok (call2 (t := .bool) (u := .int) two_pcheck2 rfl)))))))
/-! ### Proofs are sound -/
theorem whole_full {m : MdlD} {vs : List Int} (hl : vs.length = m.vars.length) (h : wholeM m vs = true) : InS vs (fullS m) := by
  refine ⟨by rw [fullS_len, hl], fun v hv => ?_⟩
  rw [fullS_len] at hv
  rw [fullS_at hv, fullV_mem, getD_at _ (show v < vs.length by omega)]
  rw [wholeM, Bool.and_eq_true, Bool.not_eq_true'] at h
  have hz : v < (m.vars.zip vs).length := by rw [List.length_zip]; omega
  have h2 := List.any_eq_false.1 h.1 _ (List.getElem_mem hz)
  rw [List.getElem_zip, Bool.not_eq_true, Bool.not_eq_false'] at h2
  exact inR_true.1 h2
theorem deny_in {s : List (List Int)} {c : List LitD} {vs : List Int} (hv : InS vs s) (hc : ∀ l ∈ c, 0 ≤ l.var) (h : holdsC c vs = false) : InS vs (denyC s c) := by
  refine ⟨hv.1.trans deny_le.1.symm, fun v hl => ?_⟩
  rw [denyC, keepS_length] at hl
  rw [denyC, keepS_getD, List.mem_filter]
  refine ⟨hv.2 v hl, ?_⟩
  rw [Bool.not_eq_true']
  cases e : atC c v (vs.getD v 0)
  · rfl
  · obtain ⟨l, h1, h2, h3⟩ := atC_iff'.1 e
    have : holdsC c vs = true := holdsC_iff.2 ⟨l, h1, by rw [h2, Int.toNat_natCast]; exact h3⟩
    rw [h] at this; cases this
theorem byCon_sound {m : MdlD} {con : Int} {c : List LitD} (h : atE m con = 0) (hc : clauseE m.vars.length c = 0) {vs : List Int} (hv : InS vs (fullS m)) (ht : trueC (conAt m con) vs = true) (hb : byCon m con c = true) : holdsC c vs = true := by
  cases e : holdsC c vs with
  | true => rfl
  | false =>
    obtain ⟨hr, _⟩ := atE_zero h
    have hd := deny_in hv (fun l hl => (litE_zero.1 ((clauseE_zero hc).2 l hl)).1.1) e
    have hop := filter_op (conAt_right h) (by have := hr.some; omega)
    have := (hop.keeps (deny_le.1.trans fullS_len) hd ht).fail
    rw [byCon, this] at hb; cases hb
theorem byUnit_sound {m : MdlD} {l : List (List LitD)} {c : List LitD} (h : RightMC m l) (hc : clauseE m.vars.length c = 0) {vs : List Int} (hv : InS vs (fullS m)) (ht : ∀ c ∈ l, holdsC c vs = true) (hb : byUnit m l c = true) : holdsC c vs = true := by
  cases e : holdsC c vs with
  | true => rfl
  | false =>
    have hd := deny_in hv (fun l hl => (litE_zero.1 ((clauseE_zero hc).2 l hl)).1.1) e
    have := (run_keeps (cons := false) h (deny_le.1.trans fullS_len) hd (fun e => by cases e) ht).fail
    rw [byUnit, this] at hb; cases hb
theorem rightS_sound {m : MdlD} {vs : List Int} (hm : checkM m = 0) (hv : InS vs (fullS m)) (hw : ∀ c ∈ m.cons, trueC c vs = true) : ∀ (l : List StepD) (all : List (List LitD)), (∀ c ∈ all, clauseE m.vars.length c = 0) → (∀ s ∈ l, clauseE m.vars.length s.clause = 0) → (∀ s ∈ l, s.kind = 1 → 0 ≤ s.con ∧ s.con < (m.cons.length : Int)) → (∀ c ∈ all, holdsC c vs = true) → rightS m all l = true → ∀ s ∈ l, holdsC s.clause vs = true
  | [], _, _, _, _, _, _, s, hs => by cases hs
  | st :: l, all, h1, h2, h3, h4, h5, s, hs => by
    rw [rightS, Bool.and_eq_true] at h5
    obtain ⟨h5, h6⟩ := h5
    have hc := h2 st (List.mem_cons_self ..)
    have hst : holdsC st.clause vs = true := by
      rw [stepB] at h5
      split at h5
      · rename_i hk
        have hcon := h3 st (List.mem_cons_self ..) hk
        refine byCon_sound (atE_of hm hcon) hc hv (hw _ ?_) h5
        rw [conAt, getD_at _ (show st.con.toNat < m.cons.length by omega)]
        exact List.getElem_mem _
      · split at h5
        · rw [Bool.and_eq_true] at h5
          exact byUnit_sound (rightMC_cl hm h1) hc hv h4 h5.2
        · cases h5
    rcases List.mem_cons.1 hs with rfl | hs
    · exact hst
    · refine rightS_sound hm hv hw l _ (fun c hc2 => ?_) (fun s hs => h2 s (List.mem_cons_of_mem _ hs)) (fun s hs => h3 s (List.mem_cons_of_mem _ hs)) (fun c hc2 => ?_) h6 s hs
      · rcases List.mem_append.1 hc2 with hc2 | hc2
        · exact h1 c hc2
        · rw [List.mem_singleton.1 hc2]; exact hc
      · rcases List.mem_append.1 hc2 with hc2 | hc2
        · exact h4 c hc2
        · rw [List.mem_singleton.1 hc2]; exact hst
theorem proof_sound {m : MdlD} {given : List (List LitD)} {l : List StepD} {vs : List Int} (hk : StepsOk m given l) (hl : vs.length = m.vars.length) (hw : wholeM m vs = true) (hg : ∀ c ∈ given, holdsC c vs = true) : proofB m given l = false := by
  cases e : proofB m given l with
  | false => rfl
  | true =>
    rw [proofB, lastEmpty, Bool.and_eq_true, Bool.and_eq_true, decide_eq_true_iff, decide_eq_true_iff] at e
    obtain ⟨h1, h2, h3⟩ := e
    have hi : l.length - 1 < l.length := by omega
    have := rightS_sound hk.chk (whole_full hl hw) (whole_true hw) l given hk.gcl hk.scl hk.con hg h1 _ (List.getElem_mem hi)
    rw [getD_at _ hi] at h3
    rw [List.length_eq_zero_iff.1 h3] at this
    cases this
theorem allE_zero {m : MdlD} {vs : List Int} (h : allE m vs = 0) : checkM m = 0 ∧ vs.length = m.vars.length := by
  unfold allE at h
  split at h
  · rename_i h1; exact absurd h h1
  rename_i h1
  split at h
  · exact absurd h (by decide)
  rename_i h2
  exact ⟨Decidable.not_not.1 h1, Decidable.not_not.1 h2⟩
theorem holdE_to {m : MdlD} {c : List LitD} {vs : List Int} (h : checkM m = 0) (h2 : clauseE m.vars.length c = 0) (h3 : vs.length = m.vars.length) : holdE m c vs = 0 := by
  rw [holdE, chkC_2 h, if_neg (not_not_intro h2), if_neg (not_not_intro h3)]
theorem soundUp {m : MdlD} {l : List StepD} {vs : List Int} (h : checkM m = 0) (hl : vs.length = m.vars.length) (hll : l.length ≤ 9223372036854775807) {I : Nat → Int → Prop}
    (heq : ∀ n (i : Int), I (n + 1) i = sel (decide (i < (l.length : Int)))
      (inb i l.length = true ∧ inb i l.length = true ∧ Call2 Tryz.prog f_proof_Con [dM m, .int .i64 ((at' .step l i.toNat).con), .sl .lit ((at' .step l i.toNat).clause)] .bool .int fun p10 p11 =>
        inb i l.length = true ∧ Call2 Tryz.prog f_clause_Holds [dM m, .sl .lit ((at' .step l i.toNat).clause), .sl .int vs] .bool .int fun c12 c13 =>
          sel (decide (p11 = 0)) (sel p10 (sel (wholeM m vs) (sel (!decide (c13 = 0)) (D.bool false = dB true) (sel (!c12) (D.bool false = dB true) (I n (w64 (i + 1))))) (I n (w64 (i + 1)))) (I n (w64 (i + 1)))) (I n (w64 (i + 1))))
      (D.bool true = dB true)) : ∃ n, I n 0 := by
  refine up0 (I := I) 0 l.length rfl (Nat.zero_le _) hll (fun _ => True) trivial fun n k _ hk _ hn => ?_
  rw [heq]
  by_cases hk2 : k < l.length
  · rw [sel_lt hk2, at_nat (t := .step) hk2]
    refine ⟨inb_nat hk2, inb_nat hk2, call2 (t := .bool) (u := .int) (proof_Con_ok m _ _) ⟨inb_nat hk2, call2 (t := .bool) (u := .int) (clause_Holds_ok m _ vs) ?_⟩⟩
    have next := hn hk2 trivial
    refine sel_intro (fun e => sel_intro (fun f => sel_intro (fun g => ?_) fun _ => next) fun _ => next) fun _ => next
    have e := of_decide_eq_true e
    obtain ⟨a1, a2⟩ := conPE_zero e
    rw [orB0 e] at f
    have e2 := holdE_to h a2 hl
    refine dnf e2 (bnf ?_ next)
    rw [orB0 e2]
    have hc := (atE_zero a1).2
    refine byCon_sound a1 a2 (whole_full hl g) (whole_true g _ ?_) f
    rw [conAt, getD_at _ (show l[k].con.toNat < m.cons.length by omega)]
    exact List.getElem_mem _
  · have hk' : k = l.length := by omega
    subst hk'
    rw [sel_end]
theorem cordonlaw_ProofSound_ok (m : MdlD) (given : List (List LitD)) (l : List StepD) (vs : List Int) : Sat Tryz.prog f_cordonlaw_ProofSound [dM m, .sl (.list .lit) given, .sl .step l, .sl .int vs] (dB true) :=
  cordonlaw_ProofSound_sat m given l vs fun ok => by
    have hll : l.length ≤ 9223372036854775807 := okLen (t := .step) (ok1 (okR (okR ok)))
    rw [cordonlaw_ProofSound_eq]
    refine call1 cordonlaw_proofBegun_ok (call1 cordonlaw_modelBegun_ok (call1 cordonlaw_clauseBegun_ok (call2 (t := .bool) (u := .int) (model_All_ok m vs) ?_)))
    by_cases h : allE m vs = 0
    · obtain ⟨h1, h2⟩ := allE_zero h
      rw [orB0 h]
      refine dnf h (call2 (t := .bool) (u := .int) (proof_Check_ok m given l) (sel_intro (fun e => sel_intro (fun f => sel_intro (fun g => call1 (cordonlaw_allClauses_ok m given vs) (sel_intro (fun x => ?_) fun x => ?_)) fun g => ?_) fun f => ?_) fun e => ?_))
      · have e := of_decide_eq_true e
        rw [orB0 e, proof_sound (chkP_zero e) h2 g (allB_true x)] at f
        cases f
      · exact soundUp h1 h2 hll (I := fun n v => cordonlaw_ProofSound_I0 m l vs _ (wholeM m vs) n v) fun n i => by rw [cordonlaw_ProofSound_I0_eq]
      · exact soundUp h1 h2 hll (I := fun n v => cordonlaw_ProofSound_I0_2 m l vs _ (wholeM m vs) n v) fun n i => by rw [cordonlaw_ProofSound_I0_2_eq]
      · exact soundUp h1 h2 hll (I := fun n v => cordonlaw_ProofSound_I0_3 m l vs _ (wholeM m vs) n v) fun n i => by rw [cordonlaw_ProofSound_I0_3_eq]
      · exact soundUp h1 h2 hll (I := fun n v => cordonlaw_ProofSound_I0_4 m l vs _ (wholeM m vs) n v) fun n i => by rw [cordonlaw_ProofSound_I0_4_eq]
    · refine dnt h ?_
      rw [orB1 h]; rfl
end Go.Proofs.YtgnjdgafkjohaaaGreat
