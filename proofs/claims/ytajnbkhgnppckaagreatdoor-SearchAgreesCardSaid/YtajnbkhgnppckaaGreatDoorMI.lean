/- Texts of this proof, one behind the other: nothing is handed in but what is proved here; no condition. -/
import Derived.Test.YtajnbkhgnppckaaGreatDoorMH
import Derived.Test.YtajnbkhgnppckaaGreatDoorWProof
/- What the program's calls of proofs answer, and the document's. -/
namespace Go.Proofs.YtajnbkhgnppckaaGreatDoor
open Go.RowKit
set_option linter.unusedVariables false
set_option linter.unusedSimpArgs false
noncomputable def byCon (m : MdlD) (con : Int) (c : List LitD) : Bool := failS (filterS (conAt m con) (denyC (fullS m) c))
noncomputable def byUnit (m : MdlD) (l : List (List LitD)) (c : List LitD) : Bool := failS (runS m false l (denyC (fullS m) c))
noncomputable def stepB (m : MdlD) (all : List (List LitD)) (st : StepD) : Bool := if st.kind = 1 then byCon m st.con st.clause else if st.kind = 2 then decide (st.con = 0) && byUnit m all st.clause else false
noncomputable def rightS (m : MdlD) : List (List LitD) → List StepD → Bool
 | _, [] => true
 | all, st :: l => stepB m all st && rightS m (all ++ [st.clause]) l
def lastEmpty (l : List StepD) : Bool := decide (0 < l.length) && decide (((l.getD (l.length - 1) ⟨0, 0, []⟩).clause).length = 0)
noncomputable def proofB (m : MdlD) (given : List (List LitD)) (l : List StepD) : Bool := rightS m given l && lastEmpty l
theorem zc {m : MdlD} : (fullS m).length = m.vars.length := List.length_map ..
theorem zWb {m : MdlD} {v : Nat} (hv : v < m.vars.length) : (fullS m).getD v [] = fullV m.vars[v] := by
 rw [getD_at _ (by rw [zc]; exact hv)]; simp [fullS]
theorem z2f {v : VarD} {n : Int} : n ∈ fullV v ↔ v.lo ≤ n ∧ n ≤ v.hi := by rw [fullV, upL_mem]; omega
theorem zAc {m : MdlD} : storeE m (fullS m) = 0 := by
 refine zEf.2 ⟨zc, fun v n hn => ?_, fun l hl => ?_⟩
 ·by_cases hv : v < m.vars.length
  ·rw [zWb hv, z2f] at hn
   rw [getD_at _ hv]; exact hn
  ·rw [zl (by rw [zc]; omega)] at hn; cases hn
 ·obtain ⟨v, hv, rfl⟩ := List.mem_map.1 hl
  exact znh
theorem deny_le {s : List (List Int)} {c : List LitD} : leS (denyC s c) s := zfb
theorem zIu {m : MdlD} {c : List LitD} : storeE m (denyC (fullS m) c) = 0 := zud zAc deny_le
theorem zJu {m : MdlD} (h : Right m) {c : List LitD} : GoodS (denyC (fullS m) c) m.vars.length := zhb h zIu
theorem full_ok {m : MdlD} (hr : Right m) : Sat Tryz.prog zmb [dM m] (dS (fullS m)) := z3r hr.lohi hr.vars
theorem zKu {m : MdlD} {con : Int} {c : List LitD} (h : atE m con = 0) : Sat Tryz.prog zTe [dM m, dI con, .sl .lit c] (dB (byCon m con c)) :=
 zHu m con c fun ok => by
  obtain ⟨hr, hc⟩ := zD h
  have hg := zJu hr (c := c)
  have hl := hg.len
  rw [zGu]
  refine call1 (full_ok hr) (call1 (zOs _ _) ⟨inb_iff.2 hc, call1 (ztd (c := conAt m con) (by rw [hl]; exact zW h) (by rw [hl]; exact hg)) (call1 (zo _) rfl)⟩)
theorem zMh {a b : Int} (h : or0 a b = 0) : a = 0 ∧ b = 0 := by
 by_cases e : a = 0
 ·rw [or0_eq e] at h; exact ⟨e, h⟩
 ·rw [or0_ne e] at h; exact absurd h e
structure StepsOk (m : MdlD) (given : List (List LitD)) (l : List StepD) : Prop where
 chk : checkM m = 0
 glen : given.length ≤ 600
 slen : l.length ≤ 6000
 gcl : ∀ c ∈ given, clauseE m.vars.length c = 0
 scl : ∀ s ∈ l, clauseE m.vars.length s.clause = 0
 con : ∀ s ∈ l, s.kind = 1 → 0 ≤ s.con ∧ s.con < (m.cons.length : Int)
def stepConF (m : MdlD) (s : StepD) : Int := if s.kind = 1 ∧ (s.con < 0 ∨ (m.cons.length : Int) ≤ s.con) then 5 else 0
def stepsE (m : MdlD) (given : List (List LitD)) (l : List StepD) : Int :=
 if 600 < given.length ∨ 6000 < l.length then 2 else or0 (rightsE m.vars.length given) (or0 (firstE (fun _ s => clauseE m.vars.length s.clause) 0 l) (firstE (fun _ s => stepConF m s) 0 l))
theorem zLu {m : MdlD} {given : List (List LitD)} {l : List StepD} (h : checkM m = 0) (h2 : stepsE m given l = 0) : StepsOk m given l := by
 unfold stepsE at h2
 split at h2
 ·exact absurd h2 (by decide)
 rename_i h3
 obtain ⟨h4, h5⟩ := zMh h2
 obtain ⟨h6, h7⟩ := zMh h5
 obtain ⟨h8, h9⟩ := zEu h4
 refine ⟨h, h8, by omega, h9, fun s hs => ?_, fun s hs hk => ?_⟩
 ·obtain ⟨i, hi, rfl⟩ := List.getElem_of_mem hs
  exact zRb h6 hi
 ·obtain ⟨i, hi, rfl⟩ := List.getElem_of_mem hs
  have := zRb h7 hi
  simp only [stepConF, hk, true_and] at this
  split at this
  ·exact absurd this (by decide)
  ·omega
end Go.Proofs.YtajnbkhgnppckaaGreatDoor
/- The laws of proofs. -/
namespace Go.Proofs.YtajnbkhgnppckaaGreatDoor
open Go.RowKit
set_option linter.unusedVariables false
set_option linter.unusedSimpArgs false
theorem zGl {m : MdlD} {vs : List Int} (hl : vs.length = m.vars.length) (h : wholeM m vs = true) : InS vs (fullS m) := by
 refine ⟨by rw [zc, hl], fun v hv => ?_⟩
 rw [zc] at hv
 rw [zWb hv, z2f, getD_at _ (show v < vs.length by omega)]
 rw [wholeM, Bool.and_eq_true, Bool.not_eq_true'] at h
 have hz : v < (m.vars.zip vs).length := by rw [List.length_zip]; omega
 have h2 := List.any_eq_false.1 h.1 _ (List.getElem_mem hz)
 rw [List.getElem_zip, Bool.not_eq_true, Bool.not_eq_false'] at h2
 exact zXi.1 h2
theorem deny_in {s : List (List Int)} {c : List LitD} {vs : List Int} (hv : InS vs s) (hc : ∀ l ∈ c, 0 ≤ l.var) (h : holdsC c vs = false) : InS vs (denyC s c) := by
 refine ⟨hv.1.trans deny_le.1.symm, fun v hl => ?_⟩
 rw [denyC, zx] at hl
 rw [denyC, zk, List.mem_filter]
 refine ⟨hv.2 v hl, ?_⟩
 rw [Bool.not_eq_true']
 cases e : atC c v (vs.getD v 0)
 ·rfl
 ·obtain ⟨l, h1, h2, h3⟩ := atC_iff'.1 e
  have : holdsC c vs = true := zX.2 ⟨l, h1, by rw [h2, Int.toNat_natCast]; exact h3⟩
  rw [h] at this; cases this
theorem zMu {m : MdlD} {con : Int} {c : List LitD} (h : atE m con = 0) (hc : clauseE m.vars.length c = 0) {vs : List Int} (hv : InS vs (fullS m)) (ht : trueC (conAt m con) vs = true) (hb : byCon m con c = true) : holdsC c vs = true := by
 cases e : holdsC c vs with
 | true => rfl
 | false =>
  obtain ⟨hr, _⟩ := zD h
  have hd := deny_in hv (fun l hl => (zL.1 ((zgd hc).2 l hl)).1.1) e
  have hop := zsc (zW h) (by have := hr.some; omega)
  have := (hop.keeps (deny_le.1.trans zc) hd ht).fail
  rw [byCon, this] at hb; cases hb
theorem zNu {m : MdlD} {l : List (List LitD)} {c : List LitD} (h : RightMC m l) (hc : clauseE m.vars.length c = 0) {vs : List Int} (hv : InS vs (fullS m)) (ht : ∀ c ∈ l, holdsC c vs = true) (hb : byUnit m l c = true) : holdsC c vs = true := by
 cases e : holdsC c vs with
 | true => rfl
 | false =>
  have hd := deny_in hv (fun l hl => (zL.1 ((zgd hc).2 l hl)).1.1) e
  have := (zEl (cons := false) h (deny_le.1.trans zc) hd (fun e => by cases e) ht).fail
  rw [byUnit, this] at hb; cases hb
theorem zHl {m : MdlD} {vs : List Int} (hm : checkM m = 0) (hv : InS vs (fullS m)) (hw : ∀ c ∈ m.cons, trueC c vs = true) : ∀ (l : List StepD) (all : List (List LitD)), (∀ c ∈ all, clauseE m.vars.length c = 0) → (∀ s ∈ l, clauseE m.vars.length s.clause = 0) → (∀ s ∈ l, s.kind = 1 → 0 ≤ s.con ∧ s.con < (m.cons.length : Int)) → (∀ c ∈ all, holdsC c vs = true) → rightS m all l = true → ∀ s ∈ l, holdsC s.clause vs = true
 | [], _, _, _, _, _, _, s, hs => by cases hs
 | st :: l, all, h1, h2, h3, h4, h5, s, hs => by
  rw [rightS, Bool.and_eq_true] at h5
  obtain ⟨h5, h6⟩ := h5
  have hc := h2 st (List.mem_cons_self ..)
  have hst : holdsC st.clause vs = true := by
   rw [stepB] at h5
   split at h5
   ·rename_i hk
    have hcon := h3 st (List.mem_cons_self ..) hk
    refine zMu (atE_of hm hcon) hc hv (hw _ ?_) h5
    rw [conAt, getD_at _ (show st.con.toNat < m.cons.length by omega)]
    exact List.getElem_mem _
   ·split at h5
    ·rw [Bool.and_eq_true] at h5
     exact zNu (zzc hm h1) hc hv h4 h5.2
    ·cases h5
  rcases List.mem_cons.1 hs with rfl | hs
  ·exact hst
  ·refine zHl hm hv hw l _ (fun c hc2 => ?_) (fun s hs => h2 s (List.mem_cons_of_mem _ hs)) (fun s hs => h3 s (List.mem_cons_of_mem _ hs)) (fun c hc2 => ?_) h6 s hs
   ·rcases List.mem_append.1 hc2 with hc2 | hc2
    ·exact h1 c hc2
    ·rw [List.mem_singleton.1 hc2]; exact hc
   ·rcases List.mem_append.1 hc2 with hc2 | hc2
    ·exact h4 c hc2
    ·rw [List.mem_singleton.1 hc2]; exact hst
theorem zOu {m : MdlD} {given : List (List LitD)} {l : List StepD} {vs : List Int} (hk : StepsOk m given l) (hl : vs.length = m.vars.length) (hw : wholeM m vs = true) (hg : ∀ c ∈ given, holdsC c vs = true) : proofB m given l = false := by
 cases e : proofB m given l with
 | false => rfl
 | true =>
  rw [proofB, lastEmpty, Bool.and_eq_true, Bool.and_eq_true, decide_eq_true_iff, decide_eq_true_iff] at e
  obtain ⟨h1, h2, h3⟩ := e
  have hi : l.length - 1 < l.length := by omega
  have := zHl hk.chk (zGl hl hw) (zDl hw) l given hk.gcl hk.scl hk.con hg h1 _ (List.getElem_mem hi)
  rw [getD_at _ hi] at h3
  rw [List.length_eq_zero_iff.1 h3] at this
  cases this
end Go.Proofs.YtajnbkhgnppckaaGreatDoor
