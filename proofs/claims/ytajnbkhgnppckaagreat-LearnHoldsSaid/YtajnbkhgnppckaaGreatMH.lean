/- Texts of this proof, one behind the other: nothing is handed in but what is proved here; no condition. -/
import Derived.Test.YtajnbkhgnppckaaGreatMG
import Derived.Test.YtajnbkhgnppckaaGreatWFix
/- What is left when nothing changes any more: the program's runs. -/
namespace Go.Proofs.YtajnbkhgnppckaaGreat
open Go.RowKit
set_option linter.unusedVariables false
set_option linter.unusedSimpArgs false

/-! ### The operators -/
noncomputable def consOps (m : MdlD) : List Op := m.cons.map filterS
def unitOps (l : List (List LitD)) : List Op := l.map fun c s => unitC s c
noncomputable def opsOf (m : MdlD) (cons : Bool) (l : List (List LitD)) : List Op := (if cons = true then consOps m else []) ++ unitOps l
noncomputable def runS (m : MdlD) (cons : Bool) (l : List (List LitD)) (s : List (List Int)) : List (List Int) := fixS (opsOf m cons l) s
/-- A model that is right, and clauses of it. -/
structure RightMC (m : MdlD) (l : List (List LitD)) : Prop where
  right : Right m
  cons : ∀ c ∈ m.cons, RightC c m.vars.length
  lits : ∀ c ∈ l, ∀ x ∈ c, 0 ≤ x.var ∧ x.var < (m.vars.length : Int)
theorem RightMC.pos {m : MdlD} {l : List (List LitD)} (h : RightMC m l) : 0 < m.vars.length := by have := h.right.some; omega
theorem rightMC_of {m : MdlD} {l : List (List LitD)} (h : checkM m = 0) (hl : ∀ c ∈ l, ∀ x ∈ c, litE m.vars.length x = 0) : RightMC m l := by
  refine ⟨right_of h, fun c hc => ?_, fun c hc x hx => (litE_zero.1 (hl c hc x hx)).1⟩
  obtain ⟨i, hi, rfl⟩ := List.getElem_of_mem hc
  have := conAt_right (atE_of h (con := (i : Int)) (by omega))
  rwa [conAt, Int.toNat_natCast, getD_at _ hi] at this
theorem consOps_ok {m : MdlD} {l : List (List LitD)} (h : RightMC m l) {c : ConD} (hc : c ∈ m.cons) : IsOp m.vars.length (filterS c) (trueC c) := filter_op (h.cons c hc) h.pos
theorem unitOps_ok {m : MdlD} {l : List (List LitD)} (h : RightMC m l) {c : List LitD} (hc : c ∈ l) : IsOp m.vars.length (fun s => unitC s c) (holdsC c) := unit_op (h.lits c hc) h.pos
theorem mem_ops {m : MdlD} {cons : Bool} {l : List (List LitD)} {op : Op} : op ∈ opsOf m cons l ↔ (cons = true ∧ ∃ c ∈ m.cons, filterS c = op) ∨ ∃ c ∈ l, (fun s => unitC s c) = op := by
  rw [opsOf, List.mem_append, unitOps, List.mem_map]
  cases cons
  · simp
  · simp [consOps]
theorem ops_ok {m : MdlD} {cons : Bool} {l : List (List LitD)} (h : RightMC m l) : OpsOk m.vars.length (opsOf m cons l) := fun op hm => by
  rcases mem_ops.1 hm with ⟨_, c, hc, rfl⟩ | ⟨c, hc, rfl⟩
  · exact ⟨_, consOps_ok h hc⟩
  · exact ⟨_, unitOps_ok h hc⟩
theorem runS_spec {m : MdlD} {cons : Bool} {l : List (List LitD)} (h : RightMC m l) {s : List (List Int)} (hs : s.length = m.vars.length) : FixR (opsOf m cons l) s (runS m cons l s) := fixS_spec (ops_ok h) hs
theorem runS_eq {m : MdlD} {cons : Bool} {l : List (List LitD)} (h : RightMC m l) {s r : List (List Int)} (hs : s.length = m.vars.length) (hr : FixR (opsOf m cons l) s r) : runS m cons l s = r := fixS_eq (by have := h.pos; omega) hr
/-! ### A round -/
/-- Behind some operators: within, and where nothing changed at all they are stable. -/
structure Round (ops : List Op) (was s : List (List Int)) (done : List Op) : Prop where
  le : leS s was
  stab : s = was → ∀ op ∈ done, op was = was
theorem Round.step {nv : Nat} {ops done : List Op} {was s : List (List Int)} (h : Round ops was s done) {op : Op} {Q : List Int → Bool} (ho : IsOp nv op Q) (hs : s.length = nv) : Round ops was (op s) (done ++ [op]) := by
  have hle := ho.le hs
  refine ⟨hle.trans h.le, fun e op' hm => ?_⟩
  have e2 : s = was := h.le.antisymm (by rw [← e]; exact hle)
  rcases List.mem_append.1 hm with hm | hm
  · exact h.stab e2 op' hm
  · rw [List.mem_singleton.1 hm]; rw [e2] at e; exact e
theorem same_rows : ∀ {s t : List (List Int)}, s.length = t.length → ((s.zip t).any fun x => !decide (x.1.length = x.2.length)) = false → (∀ v : Nat, (s.getD v []).Sublist (t.getD v [])) → s = t
  | [], [], _, _, _ => rfl
  | a :: s, b :: t, hl, h, hs => by
    rw [List.zip_cons_cons, List.any_cons, Bool.or_eq_false_iff] at h
    have h1 : a.length = b.length := by simpa using h.1
    have h0 : a.Sublist b := hs 0
    rw [h0.eq_of_length h1, same_rows (by simpa using hl) h.2 fun v => hs (v + 1)]
  | [], _ :: _, hl, _, _ => by simp at hl
  | _ :: _, [], hl, _, _ => by simp at hl
def sameS (s t : List (List Int)) : Bool := decide (s.length = t.length) && !((s.zip t).any fun x => !decide (x.1.length = x.2.length))
theorem sameS_iff {s t : List (List Int)} (h : leS s t) : sameS s t = true ↔ s = t := by
  rw [sameS, Bool.and_eq_true, decide_eq_true_iff, Bool.not_eq_true']
  constructor
  · rintro ⟨h1, h2⟩; exact same_rows h1 h2 h.2
  · rintro rfl
    refine ⟨rfl, List.any_eq_false.2 fun x hx => ?_⟩
    obtain ⟨i, hi, rfl⟩ := List.getElem_of_mem hx
    rw [List.getElem_zip]; simp
theorem fix_same_1_ok (a b : List Int) : Sat Tryz.prog f_fix_same_1 [.sl .int a, .sl .int b] (dB (decide (a.length = b.length))) :=
  fix_same_1_sat a b fun ok => by
    rw [fix_same_1_eq]
    show D.bool _ = D.bool _
    congr 1
    exact decide_eq_decide.2 ⟨fun e => by omega, fun e => by omega⟩
theorem fix_same_ok (s t : List (List Int)) : Sat Tryz.prog f_fix_same [dS s, dS t] (dB (sameS s t)) :=
  fix_same_sat s t fun ok => by
    rw [fix_same_eq]
    refine call1 (x := sameS s t) ?_ rfl
    refine Sat.clo (pre := [_, _]) (slices_EqualFunc_api_Store_api_Store_int_int_sat s t f_fix_same_1 [] fun ok => ?_)
    have hs : okStore s := ok_list (ok1 ok)
    have hsl := store_len hs
    rw [slices_EqualFunc_api_Store_api_Store_int_int_eq]
    refine sel_intro (fun e => ?_) fun e => ?_
    · rw [sameS, decide_eq_false (by simp at e; omega)]; rfl
    have e : s.length = t.length := by simp at e; omega
    have hz : (s.zip t).length = s.length := by rw [List.length_zip]; omega
    refine any0 (I := fun n v => slices_EqualFunc_api_Store_api_Store_int_int_I0 s t f_fix_same_1 [] _ n v) (s.zip t) (fun x => !decide (x.1.length = x.2.length)) (by omega) (X := dB false = dB (sameS s t)) (Y := dB true = dB (sameS s t)) (by rw [sameS, decide_eq_true e]; cases (s.zip t).any fun x => !decide (x.1.length = x.2.length) <;> rfl) (fun n k h hX hn => ?_) fun n hY => ?_
    · have hk : k < s.length := by omega
      rw [List.getElem_zip] at hX hn
      rw [slices_EqualFunc_api_Store_api_Store_int_int_I0_eq, sel_lt hk, at_nat (t := .list .int) hk, at_nat (t := .list .int) (show k < t.length by omega)]
      exact ⟨inb_nat hk, inb_nat (by omega), fix_same_1_ent, call1 (fix_same_1_ok _ _) (sel_intro hX hn)⟩
    · rw [hz, slices_EqualFunc_api_Store_api_Store_int_int_I0_eq, sel_end]; exact hY
/-! ### The run -/
theorem reach_good {nv : Nat} {ops : List Op} {s0 s : List (List Int)} (h : Reach ops s0 s) (hg : GoodS s0 nv) : GoodS s nv := by
  refine ⟨h.le.1.trans hg.len, fun v n hn => hg.near v n ((h.le.2 v).subset hn), fun l hl => ?_⟩
  obtain ⟨i, hi, rfl⟩ := List.getElem_of_mem hl
  have := h.le.2 i
  rw [getD_at _ hi, getD_at _ (show i < s0.length by rw [← h.le.1]; exact hi)] at this
  exact (hg.rise _ (List.getElem_mem _)).sublist this
/-- Counting up over operators, while the store has values. -/
theorem opsUp {nv : Nat} {ops pre : List Op} {s0 was : List (List Int)} (ho : OpsOk nv ops) (h0 : s0.length = nv) {A : Type} (xs : List A) (f : A → Op) (hf : ∀ x ∈ xs, f x ∈ ops)
    {I : Nat → Int → List (List Int) → Prop} {X : List (List Int) → Prop} {s : List (List Int)} (hl : xs.length ≤ 9223372036854775807) (hr : Reach ops s0 s) (hw : failS s = true ∨ Round ops was s pre)
    (hout : ∀ s, Reach ops s0 s → (failS s = true ∨ Round ops was s (pre ++ xs.map f)) → X s)
    (hin : ∀ n (k : Nat) (h : k < xs.length) s, Reach ops s0 s → failS s = false → I n (w64 ((k : Int) + 1)) (f xs[k] s) → I (n + 1) (k : Int) s)
    (hend : ∀ n s, X s → I (n + 1) (xs.length : Int) s) (hfail : ∀ n (k : Nat) s, k < xs.length → failS s = true → X s → I (n + 1) (k : Int) s) : ∃ n, I n 0 s := by
  refine up (I := I) 0 xs.length rfl (Nat.zero_le _) hl (fun k s => Reach ops s0 s ∧ (failS s = true ∨ Round ops was s (pre ++ (xs.take k).map f))) ⟨hr, by simpa using hw⟩ fun n k s _ hk ha hn => ?_
  obtain ⟨h1, h2⟩ := ha
  by_cases h : k < xs.length
  · cases hfl : failS s with
    | true => exact hfail n k s h hfl (hout s h1 (.inl hfl))
    | false =>
      obtain ⟨Q, hq⟩ := ho _ (hf _ (List.getElem_mem h))
      have h2 := h2.resolve_left (by rw [hfl]; decide)
      refine hin n k h s h1 hfl (hn h _ ⟨h1.step ho h0 (hf _ (List.getElem_mem h)), .inr ?_⟩)
      rw [map_take _ h, ← List.append_assoc]
      exact h2.step hq (h1.le.1.trans h0)
  · have hk' : k = xs.length := by omega
    subst hk'
    refine hend n s (hout s h1 ?_)
    rwa [List.take_length] at h2
/-- The end of a round of the run. -/
def RunX (m : MdlD) (cons : Bool) (l : List (List LitD)) (s0 : List (List Int)) (n0 : Nat) (was s : List (List Int)) : Prop :=
  Call1 Tryz.prog f_store_Empty [dS s] .bool fun s11 => sel s11
    (Call1 Tryz.prog f_store_Nothing [dS s] (.list (.list .int)) fun s12 => D.sl (.list .int) s12 = dS (runS m cons l s0))
    (Call1 Tryz.prog f_fix_same [dS s, dS was] .bool fun f13 => sel f13 (D.sl (.list .int) s = dS (runS m cons l s0)) (fix_Run_I0 m cons l (fun d => d = dS (runS m cons l s0)) n0 s))
theorem runX_of {m : MdlD} {cons : Bool} {l : List (List LitD)} {s0 : List (List Int)} (h : RightMC m l) (hs : s0.length = m.vars.length) {n0 : Nat} {was : List (List Int)}
    (ih : ∀ s, Reach (opsOf m cons l) s0 s → sizeS s < sizeS was → fix_Run_I0 m cons l (fun d => d = dS (runS m cons l s0)) n0 s) {s : List (List Int)} (hr : Reach (opsOf m cons l) s0 s) (hx : failS s = true ∨ Round (opsOf m cons l) was s (opsOf m cons l)) : RunX m cons l s0 n0 was s := by
  refine call1 (store_Empty_ok s) (sel_intro (fun e => ?_) fun e => ?_)
  · have e : failS s = true := e
    refine call1 (store_Nothing_ok s) ?_
    rw [runS_eq h hs (hr.dead e), noneS_of hr.le.1]
  · have e : failS s = false := e
    have hrd := hx.resolve_left (by rw [e]; decide)
    refine call1 (fix_same_ok s was) (sel_intro (fun f => ?_) fun f => ?_)
    · have f2 := (sameS_iff hrd.le).1 f
      rw [runS_eq h hs (hr.stop e fun op hm => ?_)]
      rw [f2]; exact hrd.stab f2 op hm
    · exact ih s hr (hrd.le.size_lt fun f2 => by rw [(sameS_iff hrd.le).2 f2] at f; cases f)
theorem runUnits {m : MdlD} {cons : Bool} {l : List (List LitD)} {s0 : List (List Int)} (h : RightMC m l) (hs : s0.length = m.vars.length) (hll : l.length ≤ 1000000000) {n0 : Nat} {was : List (List Int)}
    (ih : ∀ s, Reach (opsOf m cons l) s0 s → sizeS s < sizeS was → fix_Run_I0 m cons l (fun d => d = dS (runS m cons l s0)) n0 s)
    {I : Nat → Int → List (List Int) → Prop}
    (heq : ∀ n (i : Int) s, I (n + 1) i s = sel (decide (i < (l.length : Int)))
      (Call1 Tryz.prog f_store_Empty [dS s] .bool fun s9 => sel (!s9)
        (inb i l.length = true ∧ Call1 Tryz.prog f_clause_Put [dS s, .sl .lit (at' (.list .lit) l i.toNat)] (.list (.list .int)) fun c10 => I n (w64 (i + 1)) c10)
        (RunX m cons l s0 n0 was s))
      (RunX m cons l s0 n0 was s))
    {s : List (List Int)} (hr : Reach (opsOf m cons l) s0 s) (hw : failS s = true ∨ Round (opsOf m cons l) was s (if cons = true then consOps m else [])) : ∃ n, I n 0 s := by
  refine opsUp (ops_ok h) hs l (fun c s => unitC s c) (fun c hc => mem_ops.2 (.inr ⟨c, hc, rfl⟩)) (by omega) hr hw (X := RunX m cons l s0 n0 was) (fun s h1 h2 => runX_of h hs ih h1 h2) (fun n k hk s h1 hf hi => ?_) (fun n s hx => ?_) fun n k s hk hf hx => ?_
  · rw [heq, sel_lt hk, at_nat (t := .list .lit) hk]
    refine call1 (store_Empty_ok s) (bnt hf ⟨inb_nat hk, call1 (clause_Put_ok fun x hx => ?_) hi⟩)
    have := h.lits _ (List.getElem_mem hk) x hx
    rw [h1.le.1, hs]; exact this
  · rw [heq, sel_end]; exact hx
  · rw [heq, sel_lt hk]
    exact call1 (store_Empty_ok s) (bnf hf hx)
theorem fix_Run_ok {m : MdlD} {cons : Bool} {l : List (List LitD)} {s0 : List (List Int)} (h : RightMC m l) (hs : GoodS s0 m.vars.length) (hll : l.length ≤ 1000000000) : Sat Tryz.prog f_fix_Run [dM m, dS s0, dB cons, .sl (.list .lit) l] (dS (runS m cons l s0)) :=
  fix_Run_sat m s0 cons l fun ok => by
    have ho := ops_ok (cons := cons) h
    have hcl := h.right.cons
    rw [fix_Run_eq]
    refine call1 (store_Own_ok s0) ?_
    have step : ∀ (n0 : Nat) (was : List (List Int)), Reach (opsOf m cons l) s0 was → (∀ s, Reach (opsOf m cons l) s0 s → sizeS s < sizeS was → fix_Run_I0 m cons l (fun d => d = dS (runS m cons l s0)) n0 s) → fix_Run_I0 m cons l (fun d => d = dS (runS m cons l s0)) (n0 + 1) was := by
      intro n0 was hw ih
      rw [fix_Run_I0_eq]
      cases cons with
      | false =>
        refine ⟨1, ?_⟩
        rw [fix_Run_I2_eq]
        refine bf rfl ?_
        exact runUnits h hs.len hll ih (I := fun n i s => fix_Run_I4_3 m false l _ n0 was n s i) (fun n i s => by rw [fix_Run_I4_3_eq]; rfl) hw (.inr ⟨leS.refl _, fun _ op hm => (by cases hm)⟩)
      | true =>
        refine opsUp ho hs.len m.cons filterS (fun c hc => mem_ops.2 (.inl ⟨rfl, c, hc, rfl⟩)) (by omega) hw (was := was) (pre := []) (.inr ⟨leS.refl _, fun _ op hm => (by cases hm)⟩) (I := fun n i s => fix_Run_I2 m true l _ n0 was n s i)
          (X := fun s => (∃ n4, fix_Run_I4 m true l (fun d => d = dS (runS m true l s0)) n0 was n4 s 0) ∧ ∃ n4_2, fix_Run_I4_2 m true l (fun d => d = dS (runS m true l s0)) n0 was n4_2 s 0) (fun s h1 h2 => ?_) (fun n k hk s h1 hf hi => ?_) (fun n s hx => ?_) fun n k s hk hf hx => ?_
        · exact ⟨runUnits h hs.len hll ih (I := fun n i s => fix_Run_I4 m true l _ n0 was n s i) (fun n i s => by rw [fix_Run_I4_eq]; rfl) h1 h2, runUnits h hs.len hll ih (I := fun n i s => fix_Run_I4_2 m true l _ n0 was n s i) (fun n i s => by rw [fix_Run_I4_2_eq]; rfl) h1 h2⟩
        · show fix_Run_I2 m true l _ n0 was (n + 1) s (k : Int)
          rw [fix_Run_I2_eq]
          refine bt rfl ?_
          rw [sel_lt hk, at_nat (t := .con) hk]
          have hg := reach_good h1 hs
          have hl := hg.len
          refine call1 (store_Empty_ok s) (bnt hf ⟨inb_nat hk, call1 (filter_Raw_ok (c := m.cons[k]) (by rw [hl]; exact h.cons _ (List.getElem_mem hk)) (by rw [hl]; exact hg)) hi⟩)
        · show fix_Run_I2 m true l _ n0 was (n + 1) s (m.cons.length : Int)
          rw [fix_Run_I2_eq]
          refine bt rfl ?_
          rw [sel_end]; exact hx.2
        · show fix_Run_I2 m true l _ n0 was (n + 1) s (k : Int)
          rw [fix_Run_I2_eq]
          refine bt rfl ?_
          rw [sel_lt hk]
          exact call1 (store_Empty_ok s) (bnf hf hx.1)
    suffices H : ∀ (d : Nat) (was : List (List Int)), sizeS was ≤ d → Reach (opsOf m cons l) s0 was → fix_Run_I0 m cons l (fun d => d = dS (runS m cons l s0)) (d + 1) was from ⟨_, H _ s0 (Nat.le_refl _) (Reach.refl _ _)⟩
    intro d
    induction d with
    | zero => exact fun was hd hw => step 0 was hw fun s _ hlt => absurd hlt (by omega)
    | succ d ih => exact fun was hd hw => step (d + 1) was hw fun s h1 hlt => ih s (by omega) h1
end Go.Proofs.YtajnbkhgnppckaaGreat

/- What is left when nothing changes any more: the calls, and the document's answer. -/
namespace Go.Proofs.YtajnbkhgnppckaaGreat
open Go.RowKit
set_option linter.unusedVariables false
set_option linter.unusedSimpArgs false

def rightsE (nv : Nat) (l : List (List LitD)) : Int := if 600 < l.length then 2 else firstE (fun _ c => clauseE nv c) 0 l
theorem rightsE_zero {nv : Nat} {l : List (List LitD)} (h : rightsE nv l = 0) : l.length ≤ 600 ∧ ∀ c ∈ l, clauseE nv c = 0 := by
  unfold rightsE at h
  split at h
  · exact absurd h (by decide)
  rename_i h1
  refine ⟨by omega, fun l hl => ?_⟩
  obtain ⟨i, hi, rfl⟩ := List.getElem_of_mem hl
  exact firstE_idx h hi
theorem fix_Rights_ok (m : MdlD) (l : List (List LitD)) : Sat Tryz.prog f_fix_Rights [dM m, .sl (.list .lit) l] (dI (rightsE m.vars.length l)) :=
  fix_Rights_sat m l fun ok => by
    rw [fix_Rights_eq]
    refine sel_intro (fun e => ?_) fun e => ?_
    · exact dI_of (if_pos (by simp at e; omega))
    have e : ¬600 < l.length := by simp at e; omega
    rw [show rightsE m.vars.length l = firstE (fun _ c => clauseE m.vars.length c) 0 l from if_neg e]
    refine err0 (I := fun n v => fix_Rights_I0 m l _ n v) l (fun _ c => clauseE m.vars.length c) (by omega) (X := fun x => D.int .i64 x = dI (firstE (fun _ c => clauseE m.vars.length c) 0 l)) (Y := D.int .i64 0 = dI (firstE (fun _ c => clauseE m.vars.length c) 0 l)) (fun _ => rfl) (fun e => dI_of e) (fun n k h _ hX hn => ?_) fun n hY => ?_
    · rw [fix_Rights_I0_eq, sel_lt h, at_nat (t := .list .lit) h]
      exact ⟨inb_nat h, call1 (clause_Right_ok m _) (sel_intro (fun e => hX (ne0_true e)) fun e => hn (ne0_false e))⟩
    · rw [fix_Rights_I0_eq, sel_end]; exact hY
/-- All that is right of what a call is handed. -/
structure FixOk (m : MdlD) (s : List (List Int)) (l : List (List LitD)) : Prop where
  chk : checkM m = 0
  st : storeE m s = 0
  len : l.length ≤ 1000000
  cl : ∀ c ∈ l, clauseE m.vars.length c = 0
  mc : RightMC m l
  good : GoodS s m.vars.length
theorem rightMC_cl {m : MdlD} {l : List (List LitD)} (h : checkM m = 0) (hl : ∀ c ∈ l, clauseE m.vars.length c = 0) : RightMC m l := rightMC_of h fun c hc x hx => (clauseE_zero (hl c hc)).2 x hx
theorem rightMC_nil {m : MdlD} (h : checkM m = 0) : RightMC m [] := rightMC_of h fun c hc => by cases hc
/-! ### The document's answer -/
theorem down {α : Type} {I : Nat → Int → α → Prop} (m : Nat) (hm : m ≤ 9223372036854775807) (Inv : Nat → α → Prop) {a : α} (h0 : Inv m a)
    (hs : ∀ n (k : Nat) a, k ≤ m → Inv k a → (∀ j : Nat, k = j + 1 → ∀ a', Inv j a' → I n (w64 ((j : Int) - 1)) a') → I (n + 1) ((k : Int) - 1) a) : ∃ n, I n (w64 ((m : Int) - 1)) a := by
  suffices H : ∀ k, k ≤ m → ∀ a, Inv k a → I (k + 1) ((k : Int) - 1) a from ⟨m + 1, by rw [w64_eq (by omega) (by omega)]; exact H m (Nat.le_refl _) a h0⟩
  intro k
  induction k with
  | zero => exact fun hk a ha => hs 0 0 a hk ha fun j e => absurd e (by omega)
  | succ k ih =>
    intro hk a ha
    refine hs (k + 1) (k + 1) a hk ha fun j e a' ha' => ?_
    obtain rfl : k = j := by omega
    rw [w64_eq (by omega) (by omega)]
    exact ih (by omega) a' ha'
/-- On the way down: failed, or nothing changed so far, or less than it was. -/
structure DownR (ops : List Op) (s0 was : List (List Int)) (done : List Op) (s : List (List Int)) (ch : Bool) : Prop where
  reach : Reach ops s0 s
  st : failS s = true ∨ (ch = false ∧ s = was ∧ ∀ op ∈ done, op was = was) ∨ (ch = true ∧ sizeS s < sizeS was)
end Go.Proofs.YtajnbkhgnppckaaGreat

/- The laws of all together. -/
namespace Go.Proofs.YtajnbkhgnppckaaGreat
open Go.RowKit
set_option linter.unusedVariables false
set_option linter.unusedSimpArgs false

/-! ### What can be computed -/
def opsB (m : MdlD) (cons : Bool) (l : List (List LitD)) : List Op := (if cons = true then m.cons.map filterB else []) ++ unitOps l
def stepO (ops : List Op) (s : List (List Int)) : List (List Int) := ops.foldl (fun s op => op s) s
def itO (ops : List Op) : Nat → List (List Int) → List (List Int)
  | 0, s => s
  | k + 1, s => itO ops k (stepO ops s)
theorem stepO_cons {op : Op} {ops : List Op} {s : List (List Int)} : stepO (op :: ops) s = stepO ops (op s) := rfl
theorem reach_step {nv : Nat} {ops : List Op} (ho : OpsOk nv ops) {s0 : List (List Int)} (h0 : s0.length = nv) : ∀ (us : List Op) (s : List (List Int)), (∀ op ∈ us, op ∈ ops) → Reach ops s0 s → Reach ops s0 (stepO us s)
  | [], s, _, h => h
  | op :: us, s, hs, h => by
    rw [stepO_cons]
    exact reach_step ho h0 us _ (fun op h => hs op (List.mem_cons_of_mem _ h)) (h.step ho h0 (hs op (List.mem_cons_self ..)))
theorem reach_it {nv : Nat} {ops : List Op} (ho : OpsOk nv ops) {s0 : List (List Int)} (h0 : s0.length = nv) : ∀ (k : Nat) (s : List (List Int)), Reach ops s0 s → Reach ops s0 (itO ops k s)
  | 0, s, h => h
  | k + 1, s, h => by rw [itO]; exact reach_it ho h0 k _ (reach_step ho h0 ops s (fun op h => h) h)
theorem stepO_congr {nv : Nat} : ∀ {a b : List Op}, All2 (fun f g => ∀ s, s.length = nv → f s = g s ∧ (f s).length = nv) a b → ∀ s, s.length = nv → stepO a s = stepO b s ∧ (stepO a s).length = nv
  | _, _, .nil, s, h => ⟨rfl, h⟩
  | f :: a, g :: b, .cons h hs, s, hl => by
    obtain ⟨h1, h2⟩ := h s hl
    rw [stepO_cons, stepO_cons, ← h1]
    exact stepO_congr hs _ h2
theorem itO_congr {nv : Nat} {a b : List Op} (h : All2 (fun f g => ∀ s, s.length = nv → f s = g s ∧ (f s).length = nv) a b) : ∀ (k : Nat) (s : List (List Int)), s.length = nv → itO a k s = itO b k s
  | 0, s, _ => rfl
  | k + 1, s, hl => by
    obtain ⟨h1, h2⟩ := stepO_congr h s hl
    rw [itO, itO, ← h1]
    exact itO_congr h k _ h2
theorem all2_map {α β γ : Type} {R : β → γ → Prop} {f : α → β} {g : α → γ} : ∀ {l : List α}, (∀ x ∈ l, R (f x) (g x)) → All2 R (l.map f) (l.map g)
  | [], _ => .nil
  | x :: l, h => .cons (h x (List.mem_cons_self ..)) (all2_map fun y hy => h y (List.mem_cons_of_mem _ hy))
theorem opsB_ok {m : MdlD} {cons : Bool} {l : List (List LitD)} (h : RightMC m l) : All2 (fun f g => ∀ s, s.length = m.vars.length → f s = g s ∧ (f s).length = m.vars.length) (opsOf m cons l) (opsB m cons l) := by
  have hu : All2 (fun (f g : Op) => ∀ s, s.length = m.vars.length → f s = g s ∧ (f s).length = m.vars.length) (unitOps l) (unitOps l) := all2_map fun c hc s hs => ⟨rfl, (unitOps_ok h hc).len hs⟩
  cases cons with
  | false => exact hu
  | true => exact All2.append (all2_map fun c hc s hs => ⟨filterS_B (by rw [hs]; exact h.cons c hc), (consOps_ok h hc).len hs⟩) hu
theorem all2_mem {α β : Type} {R : α → β → Prop} : ∀ {a : List α} {b : List β}, All2 R a b → ∀ x ∈ a, ∃ y ∈ b, R x y
  | _, _, .nil, x, h => by cases h
  | u :: a, v :: b, .cons h hs, x, hx => by
    rcases List.mem_cons.1 hx with rfl | hx
    · exact ⟨v, List.mem_cons_self .., h⟩
    · obtain ⟨y, h1, h2⟩ := all2_mem hs x hx
      exact ⟨y, List.mem_cons_of_mem _ h1, h2⟩
theorem runS_B {m : MdlD} {cons : Bool} {l : List (List LitD)} (h : RightMC m l) {s r : List (List Int)} (hs : s.length = m.vars.length) (k : Nat) (e : itO (opsB m cons l) k s = r) (hf : failS r = false) (hst : ((opsB m cons l).all fun op => decide (op r = r)) = true) : runS m cons l s = r := by
  have ho := opsB_ok (cons := cons) h
  rw [← itO_congr ho k s hs] at e
  have hr := reach_it (ops_ok (cons := cons) h) hs k s (Reach.refl _ _)
  rw [e] at hr
  refine runS_eq h hs (hr.stop hf fun op hm => ?_)
  obtain ⟨g, hg, h2⟩ := all2_mem ho op hm
  rw [(h2 r (hr.le.1.trans hs)).1]
  exact of_decide_eq_true (List.all_eq_true.1 hst g hg)
theorem runS_B0 {m : MdlD} {cons : Bool} {l : List (List LitD)} (h : RightMC m l) {s : List (List Int)} (hs : s.length = m.vars.length) (k : Nat) (hf : failS (itO (opsB m cons l) k s) = true) : runS m cons l s = noneS s := by
  have ho := opsB_ok (cons := cons) h
  rw [← itO_congr ho k s hs] at hf
  exact runS_eq h hs ((reach_it (ops_ok (cons := cons) h) hs k s (Reach.refl _ _)).dead hf)
theorem two_mc : RightMC twoM [] := rightMC_nil (by kernel_rfl)
def allB (m : MdlD) (l : List (List LitD)) (vs : List Int) : Bool := !l.any fun c => !(decide (holdE m c vs = 0) && holdsC c vs)
theorem cordonlaw_allClauses_ok (m : MdlD) (l : List (List LitD)) (vs : List Int) : Sat Tryz.prog f_cordonlaw_allClauses [dM m, .sl (.list .lit) l, .sl .int vs] (dB (allB m l vs)) :=
  cordonlaw_allClauses_sat m l vs fun ok => by
    rw [cordonlaw_allClauses_eq]
    refine any0 (I := fun n v => cordonlaw_allClauses_I0 m l vs _ n v) l (fun c => !(decide (holdE m c vs = 0) && holdsC c vs)) (okLen (t := .list .lit) (ok1 (okR ok))) (X := dB false = dB (allB m l vs)) (Y := dB true = dB (allB m l vs)) anyNB (fun n k h hX hn => ?_) fun n hY => ?_
    · rw [cordonlaw_allClauses_I0_eq, sel_lt h, at_nat (t := .list .lit) h]
      refine ⟨inb_nat h, call2 (t := .bool) (u := .int) (clause_Holds_ok m _ vs) ?_⟩
      by_cases e : holdE m l[k] vs = 0
      · refine dnf e ?_
        rw [orB0 e]
        rw [decide_eq_true e, Bool.true_and] at hX hn
        exact sel_intro hX hn
      · refine dnt e (hX ?_)
        rw [decide_eq_false e]; rfl
    · rw [cordonlaw_allClauses_I0_eq, sel_end]; exact hY
theorem allB_true {m : MdlD} {l : List (List LitD)} {vs : List Int} (h : allB m l vs = true) : ∀ c ∈ l, holdsC c vs = true := fun c hc => by
  rw [allB, Bool.not_eq_true', List.any_eq_false] at h
  have := h c hc
  rw [Bool.not_eq_true, Bool.not_eq_false', Bool.and_eq_true] at this
  exact this.2
theorem whole_true {m : MdlD} {vs : List Int} (h : wholeM m vs = true) : ∀ c ∈ m.cons, trueC c vs = true := fun c hc => by
  rw [wholeM, Bool.and_eq_true, Bool.not_eq_true', Bool.not_eq_true'] at h
  have h2 := List.any_eq_false.1 h.2 c hc
  simpa using h2
theorem run_keeps {m : MdlD} {cons : Bool} {l : List (List LitD)} {s : List (List Int)} (h : RightMC m l) (hs : s.length = m.vars.length) {vs : List Int} (hv : InS vs s) (h1 : cons = true → ∀ c ∈ m.cons, trueC c vs = true) (h2 : ∀ c ∈ l, holdsC c vs = true) : InS vs (runS m cons l s) :=
  (runS_spec h hs).keeps hs hv fun op hm => by
    rcases mem_ops.1 hm with ⟨a, c, hc, rfl⟩ | ⟨c, hc, rfl⟩
    · exact ⟨_, consOps_ok h hc, h1 a c hc⟩
    · exact ⟨_, unitOps_ok h hc, h2 c hc⟩
end Go.Proofs.YtajnbkhgnppckaaGreat
