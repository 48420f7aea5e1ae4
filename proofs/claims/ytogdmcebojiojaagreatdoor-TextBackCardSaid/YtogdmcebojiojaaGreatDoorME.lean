/- Texts of this proof, one behind the other: nothing is handed in but what is proved here; no condition. -/
import Derived.Test.YtogdmcebojiojaaGreatDoorWSlices
import Derived.Test.YtogdmcebojiojaaGreatDoorMD
import Derived.Test.YtogdmcebojiojaaGreatDoorWModel
import Derived.Test.YtogdmcebojiojaaGreatDoorMC
import Derived.Test.YtogdmcebojiojaaGreatDoorWCordonref
/- What is sought in a slice: contracts printed by a program. -/
namespace Go.Proofs.YtogdmcebojiojaaGreatDoor
open Go.RowKit
set_option linter.unusedVariables false
set_option maxRecDepth 100000
theorem slices_IndexFunc_l_int_int_any {xs : List Int} {g : FuncId} {rs : Option (List Ty)} {cap : List D} {p : Int → Bool} (he : Ent Tryz.prog g) (hp : ∀ x ∈ xs, Sat Tryz.prog g (dI x :: cap) (.bool (p x))) : Sat Tryz.prog f_slices_IndexFunc_l_int_int [.sl .int xs, .clo g rs cap] (.int .i64 (ixI p xs 0)) :=
  Sat.clo (pre := [_]) (slices_IndexFunc_l_int_int_sat _ _ _ fun ok => by
    rw [slices_IndexFunc_l_int_int_eq]
    refine seek (t := .int) (p := p) (R := fun d => d = .int .i64 (ixI p xs 0)) (okLen (t := .int) (ok1 ok)) rfl (fun n k h h1 h2 => ?_) fun n hR => ?_
    · rw [slices_IndexFunc_l_int_int_I0_eq, sel_lt h, at_nat h]
      exact ⟨inb_nat h, he, call1 (hp _ (List.getElem_mem h)) (sel_intro h1 h2)⟩
    · rw [slices_IndexFunc_l_int_int_I0_eq, sel_end]; exact hR)
theorem slices_IndexFunc_l_api_Var_api_Var_any {xs : List VarD} {g : FuncId} {rs : Option (List Ty)} {cap : List D} {p : VarD → Bool} (he : Ent Tryz.prog g) (hp : ∀ x ∈ xs, Sat Tryz.prog g (dV x :: cap) (.bool (p x))) : Sat Tryz.prog f_slices_IndexFunc_l_api_Var_api_Var [.sl .var xs, .clo g rs cap] (.int .i64 (ixI p xs 0)) :=
  Sat.clo (pre := [_]) (slices_IndexFunc_l_api_Var_api_Var_sat _ _ _ fun ok => by
    rw [slices_IndexFunc_l_api_Var_api_Var_eq]
    refine seek (t := .var) (p := p) (R := fun d => d = .int .i64 (ixI p xs 0)) (okLen (t := .var) (ok1 ok)) rfl (fun n k h h1 h2 => ?_) fun n hR => ?_
    · rw [slices_IndexFunc_l_api_Var_api_Var_I0_eq, sel_lt h, at_nat h]
      exact ⟨inb_nat h, he, call1 (hp _ (List.getElem_mem h)) (sel_intro h1 h2)⟩
    · rw [slices_IndexFunc_l_api_Var_api_Var_I0_eq, sel_end]; exact hR)
theorem slices_IndexFunc_l_api_Lit_api_Lit_any {xs : List LitD} {g : FuncId} {rs : Option (List Ty)} {cap : List D} {p : LitD → Bool} (he : Ent Tryz.prog g) (hp : ∀ x ∈ xs, Sat Tryz.prog g (dL x :: cap) (.bool (p x))) : Sat Tryz.prog f_slices_IndexFunc_l_api_Lit_api_Lit [.sl .lit xs, .clo g rs cap] (.int .i64 (ixI p xs 0)) :=
  Sat.clo (pre := [_]) (slices_IndexFunc_l_api_Lit_api_Lit_sat _ _ _ fun ok => by
    rw [slices_IndexFunc_l_api_Lit_api_Lit_eq]
    refine seek (t := .lit) (p := p) (R := fun d => d = .int .i64 (ixI p xs 0)) (okLen (t := .lit) (ok1 ok)) rfl (fun n k h h1 h2 => ?_) fun n hR => ?_
    · rw [slices_IndexFunc_l_api_Lit_api_Lit_I0_eq, sel_lt h, at_nat h]
      exact ⟨inb_nat h, he, call1 (hp _ (List.getElem_mem h)) (sel_intro h1 h2)⟩
    · rw [slices_IndexFunc_l_api_Lit_api_Lit_I0_eq, sel_end]; exact hR)
theorem slices_IndexFunc_rows_int_int_any {xs : List (List Int)} {g : FuncId} {rs : Option (List Ty)} {cap : List D} {p : (List Int) → Bool} (he : Ent Tryz.prog g) (hp : ∀ x ∈ xs, Sat Tryz.prog g (.sl .int x :: cap) (.bool (p x))) : Sat Tryz.prog f_slices_IndexFunc_rows_int_int [.sl (.list .int) xs, .clo g rs cap] (.int .i64 (ixI p xs 0)) :=
  Sat.clo (pre := [_]) (slices_IndexFunc_rows_int_int_sat _ _ _ fun ok => by
    rw [slices_IndexFunc_rows_int_int_eq]
    refine seek (t := (.list .int)) (p := p) (R := fun d => d = .int .i64 (ixI p xs 0)) (okLen (t := (.list .int)) (ok1 ok)) rfl (fun n k h h1 h2 => ?_) fun n hR => ?_
    · rw [slices_IndexFunc_rows_int_int_I0_eq, sel_lt h, at_nat h]
      exact ⟨inb_nat h, he, call1 (hp _ (List.getElem_mem h)) (sel_intro h1 h2)⟩
    · rw [slices_IndexFunc_rows_int_int_I0_eq, sel_end]; exact hR)
theorem slices_ContainsFunc_l_int_int_any {xs : List Int} {g : FuncId} {rs : Option (List Ty)} {cap : List D} {p : Int → Bool} (he : Ent Tryz.prog g) (hp : ∀ x ∈ xs, Sat Tryz.prog g (dI x :: cap) (.bool (p x))) : Sat Tryz.prog f_slices_ContainsFunc_l_int_int [.sl .int xs, .clo g rs cap] (.bool (xs.any p)) :=
  Sat.clo (pre := [_]) (slices_ContainsFunc_l_int_int_sat _ _ _ fun ok => by
    rw [slices_ContainsFunc_l_int_int_eq]
    refine call1 (slices_IndexFunc_l_int_int_any he hp) ?_
    rw [ixI_nonneg _ _ (Int.le_refl 0)])
theorem slices_ContainsFunc_l_api_Var_api_Var_any {xs : List VarD} {g : FuncId} {rs : Option (List Ty)} {cap : List D} {p : VarD → Bool} (he : Ent Tryz.prog g) (hp : ∀ x ∈ xs, Sat Tryz.prog g (dV x :: cap) (.bool (p x))) : Sat Tryz.prog f_slices_ContainsFunc_l_api_Var_api_Var [.sl .var xs, .clo g rs cap] (.bool (xs.any p)) :=
  Sat.clo (pre := [_]) (slices_ContainsFunc_l_api_Var_api_Var_sat _ _ _ fun ok => by
    rw [slices_ContainsFunc_l_api_Var_api_Var_eq]
    refine call1 (slices_IndexFunc_l_api_Var_api_Var_any he hp) ?_
    rw [ixI_nonneg _ _ (Int.le_refl 0)])
theorem slices_ContainsFunc_l_api_Lit_api_Lit_any {xs : List LitD} {g : FuncId} {rs : Option (List Ty)} {cap : List D} {p : LitD → Bool} (he : Ent Tryz.prog g) (hp : ∀ x ∈ xs, Sat Tryz.prog g (dL x :: cap) (.bool (p x))) : Sat Tryz.prog f_slices_ContainsFunc_l_api_Lit_api_Lit [.sl .lit xs, .clo g rs cap] (.bool (xs.any p)) :=
  Sat.clo (pre := [_]) (slices_ContainsFunc_l_api_Lit_api_Lit_sat _ _ _ fun ok => by
    rw [slices_ContainsFunc_l_api_Lit_api_Lit_eq]
    refine call1 (slices_IndexFunc_l_api_Lit_api_Lit_any he hp) ?_
    rw [ixI_nonneg _ _ (Int.le_refl 0)])
theorem slices_ContainsFunc_rows_int_int_any {xs : List (List Int)} {g : FuncId} {rs : Option (List Ty)} {cap : List D} {p : (List Int) → Bool} (he : Ent Tryz.prog g) (hp : ∀ x ∈ xs, Sat Tryz.prog g (.sl .int x :: cap) (.bool (p x))) : Sat Tryz.prog f_slices_ContainsFunc_rows_int_int [.sl (.list .int) xs, .clo g rs cap] (.bool (xs.any p)) :=
  Sat.clo (pre := [_]) (slices_ContainsFunc_rows_int_int_sat _ _ _ fun ok => by
    rw [slices_ContainsFunc_rows_int_int_eq]
    refine call1 (slices_IndexFunc_rows_int_int_any he hp) ?_
    rw [ixI_nonneg _ _ (Int.le_refl 0)])
theorem model_vars_1_ent : Ent Tryz.prog f_model_vars_1 := fun args w => Tryz.call163 args w
theorem model_con_1_ent : Ent Tryz.prog f_model_con_1 := fun args w => Tryz.call164 args w
theorem model_con_2_ent : Ent Tryz.prog f_model_con_2 := fun args w => Tryz.call165 args w
theorem model_con_3_ent : Ent Tryz.prog f_model_con_3 := fun args w => Tryz.call168 args w
theorem model_con_4_ent : Ent Tryz.prog f_model_con_4 := fun args w => Tryz.call170 args w
theorem model_form_1_ent : Ent Tryz.prog f_model_form_1 := fun args w => Tryz.call224 args w
end Go.Proofs.YtogdmcebojiojaaGreatDoor

/- Short names for data, and what functions that are handed on may be. -/
namespace Go.Proofs.YtogdmcebojiojaaGreatDoor
open Go.RowKit
set_option linter.unusedVariables false

end Go.Proofs.YtogdmcebojiojaaGreatDoor

/- What names of variables are, out of the walks of tokens: told to the denotation. -/
namespace Go.Proofs.YtogdmcebojiojaaGreatDoor
open Go.RowKit
set_option linter.unusedVariables false

theorem sat_str_bool {P : Program} {f : FuncId} {s : ByteArray} {b : Bool} (h : s.size ≤ 140737488355328 → ∀ w, Calls P f #[.string s] w fun e w' => e = .returned (.bool b) ∧ Below w.heap.size w w') : Sat P f [.str s] (.bool b) := by
  intro w S vs hS hl hv _
  obtain ⟨e0, hz⟩ := (hv 0 _ rfl).str_inv
  have e : vs = #[.string s] := by
    have hl : vs.size = 1 := hl
    apply Array.ext
    · simpa using hl
    · intro i h1 h2
      have : i = 0 := by omega
      subst this
      simpa [Array.getD_eq_getD_getElem?, h1] using e0
  subst e
  exact (h hz w).mono fun e w' ⟨he, hb⟩ => ⟨_, he, .bool b, hb⟩
theorem model_Name_ok (s : ByteArray) : Sat Tryz.prog f_model_Name [.str s] (.bool (isNameS s)) := sat_str_bool fun _ w => name_any s w
end Go.Proofs.YtogdmcebojiojaaGreatDoor

/- What the program's and the document's test of a model answer. -/
namespace Go.Proofs.YtogdmcebojiojaaGreatDoor
open Go.RowKit
set_option linter.unusedVariables false
set_option linter.unusedSimpArgs false

theorem model_within_ok (n a b : Int) : Sat Tryz.prog f_model_within [dI n, dI a, dI b] (dB (inR n a b)) :=
  model_within_sat n a b fun ok => by rw [model_within_eq]; (repeat' (refine sel_intro (fun _ => ?_) (fun _ => ?_))) <;> simp_all [inR] <;> omega
theorem model_con_2_ok (n : Int) : Sat Tryz.prog f_model_con_2 [dI n] (dB (farB n)) :=
  model_con_2_sat n fun ok => by rw [model_con_2_eq]; exact call1 (model_within_ok _ _ _) rfl
theorem model_con_1_ok (n : Int) (m : MdlD) (h : m.vars.length ≤ 9223372036854775807) : Sat Tryz.prog f_model_con_1 [dI n, .iptr [.sl .var m.vars, .sl .con m.cons, .int .i64 m.goal, .int .i64 m.var] 0] (dB (noneB m.vars.length n)) :=
  model_con_1_sat n m fun ok => by
    rw [model_con_1_eq, w64_eq (by omega) (by omega)]; exact call1 (model_within_ok _ _ _) rfl
theorem model_con_3_ok (l : LitD) {g : FuncId} {cap : List D} {b : Bool} (he : Ent Tryz.prog g) (h : Sat Tryz.prog g (dI l.var :: cap) (dB b)) : Sat Tryz.prog f_model_con_3 [dL l, .iptr [.clo g none cap] 0] (dB b) :=
  Sat.iclo (pre := [_]) (model_con_3_sat l g cap fun ok => by rw [model_con_3_eq]; exact ⟨he, call1 h rfl⟩)
theorem model_con_4_ok (l : List Int) {g : FuncId} {cap : List D} {p : Int → Bool} (he : Ent Tryz.prog g) (h : ∀ x ∈ l, Sat Tryz.prog g (dI x :: cap) (dB (p x))) : Sat Tryz.prog f_model_con_4 [.sl .int l, .iptr [.clo g none cap] 0] (dB (l.any p)) :=
  Sat.iclo (pre := [_]) (model_con_4_sat l g cap fun ok => by rw [model_con_4_eq]; exact call1 (slices_ContainsFunc_l_int_int_any he h) rfl)
theorem model_form_1_ok (l : List Int) (c : ConD) : Sat Tryz.prog f_model_form_1 [.sl .int l, .iptr [.int .i64 c.kind, .sl .int c.vars, .sl .int c.consts, .int .i64 c.n, .sl (.list .int) c.rows, .sl .lit c.lits] 0] (dB (!decide (l.length = c.vars.length))) :=
  model_form_1_sat l c fun ok => by rw [model_form_1_eq]; congr 2; exact decide_eq_decide.2 (by omega)
theorem model_is_ok (a b : Int) : Sat Tryz.prog f_model_is [dI a, dI b] (dB (decide (b = -1) || decide (a = b))) :=
  model_is_sat a b fun ok => by rw [model_is_eq]; (repeat' (refine sel_intro (fun _ => ?_) (fun _ => ?_))) <;> simp_all

def shapeOf (c : ConD) : Int × Int × Int × Int × Int :=
  if c.kind = 1 ∨ c.kind = 2 ∨ c.kind = 3 then (1, 4, c.vars.length, 0, 0) else if c.kind = 4 then (1, 4, 0, 0, 0) else if c.kind = 5 then (2, 2, -1, 0, 0)
  else if c.kind = 6 then (1, 4, 0, -1, 0) else if c.kind = 7 then (3, 3, 0, 0, 0) else if c.kind = 8 then (2, 4, 0, 0, 0) else if c.kind = 9 then (0, 0, 0, 0, -1) else (1, 1, 0, 0, 1)
theorem model_of_ok (c : ConD) : Sat Tryz.prog f_model_of [dC c] (toD (.pr .int (.pr .int (.pr .int (.pr .int .int)))) (shapeOf c)) :=
  model_of_sat c fun ok => by
    rw [model_of_eq]
    unfold shapeOf
    (repeat' (refine sel_intro (fun _ => ?_) (fun _ => ?_))) <;> simp_all <;> rfl
def isB (a b : Int) : Bool := decide (b = -1) || decide (a = b)
def formP (c : ConD) : Bool :=
  inR c.vars.length (shapeOf c).1 (shapeOf c).2.1 && isB c.consts.length (shapeOf c).2.2.1 && isB c.rows.length (shapeOf c).2.2.2.1 && isB c.lits.length (shapeOf c).2.2.2.2 &&
  !(decide (c.kind = 5) && decide ((c.consts.length : Int) = 0)) && !(decide (3 < c.kind) && !decide (c.n = 0)) && !(c.rows.any fun r => !decide (r.length = c.vars.length))
theorem model_form_ok (c : ConD) : Sat Tryz.prog f_model_form [dC c] (dB (formP c)) :=
  model_form_sat c fun ok => by
    rw [model_form_eq]
    refine call1 (model_of_ok c) (call1 (model_within_ok _ _ _) (sel_intro (fun e1 => ?_) fun e1 => call1 (model_is_ok _ _) (sel_intro (fun e2 => ?_) fun e2 => call1 (model_is_ok _ _) (sel_intro (fun e3 => ?_) fun e3 => call1 (model_is_ok _ _) (sel_intro (fun e4 => ?_) fun e4 => ?_)))))
    all_goals try simp only [Bool.not_eq_eq_eq_not, Bool.not_true, Bool.not_false] at *
    · simp only [formP, isB, e1, Bool.false_and]
    · simp only [formP, isB, e2, Bool.false_and, Bool.and_false]
    · simp only [formP, isB, e3, Bool.false_and, Bool.and_false]
    · simp only [formP, isB, e4, Bool.false_and, Bool.and_false]
    have hr : Sat Tryz.prog f_slices_ContainsFunc_rows_int_int [.sl (.list .int) c.rows, .clo f_model_form_1 none [.iptr [.int .i64 c.kind, .sl .int c.vars, .sl .int c.consts, .int .i64 c.n, .sl (.list .int) c.rows, .sl .lit c.lits] 0]] (dB (c.rows.any fun r => !decide (r.length = c.vars.length))) := slices_ContainsFunc_rows_int_int_any model_form_1_ent fun x _ => model_form_1_ok x c
    (repeat' (refine sel_intro (fun _ => ?_) (fun _ => ?_)))
    all_goals first | (refine call1 hr ?_; simp only [formP, isB, *, Bool.true_and, Bool.and_true, Bool.not_true, Bool.not_false, Bool.and_false, Bool.false_and]; done) | (simp only [formP, isB, *, Bool.true_and, Bool.and_true, Bool.not_true, Bool.not_false, Bool.and_false, Bool.false_and]; done)
theorem formP_eq (c : ConD) (h1 : 1 ≤ c.kind) (h2 : c.kind ≤ 10) (h3 : c.vars.length ≤ 4) : formP c = formB c := by
  have hk : c.kind = 1 ∨ c.kind = 2 ∨ c.kind = 3 ∨ c.kind = 4 ∨ c.kind = 5 ∨ c.kind = 6 ∨ c.kind = 7 ∨ c.kind = 8 ∨ c.kind = 9 ∨ c.kind = 10 := by omega
  have ha : (c.rows.any fun r => !decide (r.length = c.vars.length)) = !(c.rows.all fun r => decide (r.length = c.vars.length)) := by
    rw [List.all_eq_not_any_not, Bool.not_not]
  have hq : c.rows.length = 0 → (c.rows.all fun r => decide (r.length = c.vars.length)) = true := fun h => by rw [List.length_eq_zero_iff.1 h]; rfl
  unfold formP formB shapeOf
  rw [ha]
  dsimp only
  revert hq
  generalize (c.rows.all fun r => decide (r.length = c.vars.length)) = q
  generalize c.vars.length = v at *
  generalize c.consts.length = k
  generalize c.rows.length = rr
  generalize c.lits.length = l
  rcases hk with h | h | h | h | h | h | h | h | h | h <;> simp only [h, isB, inR] <;> rw [Bool.eq_iff_iff] <;> intro hq <;> cases q <;> simp_all <;> first | omega | (rw [Bool.eq_iff_iff]; simp; omega)

theorem conE_1 {nv : Nat} {c : ConD} (h : inR c.kind 1 10 = false) : conE nv c = 7 := by rw [conE, if_pos h]
theorem conE_2 {nv : Nat} {c : ConD} (h1 : ¬inR c.kind 1 10 = false) (h : manyB c = true) : conE nv c = 2 := by rw [conE, if_neg h1, if_pos h]
theorem conE_3 {nv : Nat} {c : ConD} (h1 : ¬inR c.kind 1 10 = false) (h2 : ¬manyB c = true) (h : formB c = false) : conE nv c = 1 := by rw [conE, if_neg h1, if_neg h2, if_pos h]
theorem conE_4 {nv : Nat} {c : ConD} (h1 : ¬inR c.kind 1 10 = false) (h2 : ¬manyB c = true) (h3 : ¬formB c = false) (h : (c.vars.any (noneB nv) || c.lits.any fun l => noneB nv l.var) = true) : conE nv c = 5 := by rw [conE, if_neg h1, if_neg h2, if_neg h3, if_pos h]
theorem conE_5 {nv : Nat} {c : ConD} (h1 : ¬inR c.kind 1 10 = false) (h2 : ¬manyB c = true) (h3 : ¬formB c = false) (h4 : ¬(c.vars.any (noneB nv) || c.lits.any fun l => noneB nv l.var) = true) (h : (c.consts.any farB || farB c.n || c.rows.any fun r => r.any farB) = true) : conE nv c = 3 := by rw [conE, if_neg h1, if_neg h2, if_neg h3, if_neg h4, if_pos h]
theorem conE_6 {nv : Nat} {c : ConD} (h1 : ¬inR c.kind 1 10 = false) (h2 : ¬manyB c = true) (h3 : ¬formB c = false) (h4 : ¬(c.vars.any (noneB nv) || c.lits.any fun l => noneB nv l.var) = true) (h5 : ¬(c.consts.any farB || farB c.n || c.rows.any fun r => r.any farB) = true) : conE nv c = firstE (fun _ l => opE l) 0 c.lits := by rw [conE, if_neg h1, if_neg h2, if_neg h3, if_neg h4, if_neg h5]
theorem dI_of {a b : Int} (h : b = a) : D.int .i64 a = dI b := by rw [h]
theorem model_con_ok (m : MdlD) (c : ConD) (hm : m.vars.length ≤ 6) : Sat Tryz.prog f_model_con [dM m, dC c] (dI (conE m.vars.length c)) :=
  model_con_sat m c fun ok => by
    have hm' : m.vars.length ≤ 9223372036854775807 := by omega
    rw [model_con_eq]
    refine sel_intro (fun e => ?_) fun e1 => sel_intro (fun e => ?_) fun e2 => ?_
    · exact dI_of (conE_1 (inR_false.2 (.inl (of_decide_eq_true e))))
    · exact dI_of (conE_1 (inR_false.2 (.inr (of_decide_eq_true e))))
    simp at e1 e2
    have k1 : ¬inR c.kind 1 10 = false := by rw [inR_false]; omega
    refine sel_intro (fun e => ?_) fun e3 => sel_intro (fun e => ?_) fun e4 => sel_intro (fun e => ?_) fun e5 => sel_intro (fun e => ?_) fun e6 => ?_
    iterate 4 (exact dI_of (conE_2 k1 (by simp at e; simp [manyB]; omega)))
    simp at e3 e4 e5 e6
    have k2 : ¬manyB c = true := by simp [manyB]; omega
    refine call1 (model_form_ok c) ?_
    rw [formP_eq c e1 e2 (by omega)]
    refine sel_intro (fun e => ?_) fun e => ?_
    · exact dI_of (conE_3 k1 k2 (by simpa using e))
    have k3 : ¬formB c = false := by simpa using e
    refine call1 (slices_ContainsFunc_l_int_int_any (p := noneB m.vars.length) model_con_1_ent fun x _ => model_con_1_ok x m hm') (sel_intro (fun e => ?_) fun e7 => ?_)
    · exact dI_of (conE_4 k1 k2 k3 (by rw [e]; rfl))
    refine call1 (slices_ContainsFunc_l_api_Lit_api_Lit_any (p := fun l => noneB m.vars.length l.var) model_con_3_ent fun x _ => model_con_3_ok x model_con_1_ent (model_con_1_ok x.var m hm')) (sel_intro (fun e => ?_) fun e8 => ?_)
    · exact dI_of (conE_4 k1 k2 k3 (by rw [e, Bool.or_true]))
    have k4 : ¬(c.vars.any (noneB m.vars.length) || c.lits.any fun l => noneB m.vars.length l.var) = true := by rw [e7, e8]; decide
    refine call1 (slices_ContainsFunc_l_int_int_any (p := farB) model_con_2_ent fun x _ => model_con_2_ok x) (sel_intro (fun e => ?_) fun e9 => ?_)
    · exact dI_of (conE_5 k1 k2 k3 k4 (by rw [e]; rfl))
    refine call1 (model_con_2_ok _) (sel_intro (fun e => ?_) fun e10 => ?_)
    · exact dI_of (conE_5 k1 k2 k3 k4 (by rw [e, Bool.or_true]; rfl))
    refine call1 (slices_ContainsFunc_rows_int_int_any (p := fun r => r.any farB) model_con_4_ent fun x _ => model_con_4_ok x model_con_2_ent fun n _ => model_con_2_ok n) (sel_intro (fun e => ?_) fun e11 => ?_)
    · exact dI_of (conE_5 k1 k2 k3 k4 (by rw [e, Bool.or_true]))
    have k5 : ¬(c.consts.any farB || farB c.n || c.rows.any fun r => r.any farB) = true := by rw [e9, e10, e11]; decide
    rw [conE_6 k1 k2 k3 k4 k5]
    refine err0 (I := fun n v => model_con_I1 c _ n v) c.lits (fun _ l => opE l) (by omega) (X := fun x => D.int .i64 x = dI (firstE (fun _ l => opE l) 0 c.lits)) (Y := D.int .i64 0 = dI (firstE (fun _ l => opE l) 0 c.lits)) (fun _ => rfl) (fun e => dI_of e) (fun n k h _ hX hn => ?_) fun n hY => ?_
    · rw [model_con_I1_eq, sel_lt h, at_nat (t := .lit) h]
      unfold opE at hX hn
      refine ⟨inb_nat h, sel_intro (fun e => ?_) fun e1 => sel_intro (fun e => ?_) fun e2 => call1 (model_con_2_ok _) (sel_intro (fun e => ?_) fun e => ?_)⟩
      · have i : inR c.lits[k].op 1 4 = false := inR_false.2 (.inl (of_decide_eq_true e))
        rw [if_pos i] at hX; exact hX (by decide)
      · have i : inR c.lits[k].op 1 4 = false := inR_false.2 (.inr (of_decide_eq_true e))
        rw [if_pos i] at hX; exact hX (by decide)
      · have i : ¬inR c.lits[k].op 1 4 = false := by rw [inR_false]; simp at e1 e2; omega
        rw [if_neg i, if_pos e] at hX; exact hX (by decide)
      · have i : ¬inR c.lits[k].op 1 4 = false := by rw [inR_false]; simp at e1 e2; omega
        rw [if_neg i, if_neg (by rw [e]; decide)] at hn; exact hn rfl
    · rw [model_con_I1_eq, sel_end]; exact hY
end Go.Proofs.YtogdmcebojiojaaGreatDoor

/- What the program's test of a model answers: variables, and all. -/
namespace Go.Proofs.YtogdmcebojiojaaGreatDoor
open Go.RowKit
set_option linter.unusedVariables false
set_option linter.unusedSimpArgs false

theorem model_vars_1_ok (u v : VarD) : Sat Tryz.prog f_model_vars_1 [dV u, .iptr [.str v.name, .int .i64 v.lo, .int .i64 v.hi] 0] (dB (u.name.toList == v.name.toList)) :=
  model_vars_1_sat u v fun ok => by rw [model_vars_1_eq, str_beq]
def lohiE (v : VarD) : Int := if (!inR v.lo (-50) 50 || !inR v.hi (-50) 50 || decide (v.hi < v.lo)) = true then 3 else if 6 ≤ v.hi - v.lo then 2 else 0
theorem varE_1 {a : List VarD} {v : VarD} (h : isNameS v.name = false) : varE a v = 1 := by rw [varE, if_pos h]
theorem varE_2 {a : List VarD} {v : VarD} (h1 : ¬isNameS v.name = false) (h : (a.any fun u => u.name.toList == v.name.toList) = true) : varE a v = 6 := by rw [varE, if_neg h1, if_pos h]
theorem varE_3 {a : List VarD} {v : VarD} (h1 : ¬isNameS v.name = false) (h2 : ¬(a.any fun u => u.name.toList == v.name.toList) = true) : varE a v = lohiE v := by rw [varE, if_neg h1, if_neg h2]; rfl
theorem lohi_1 {v : VarD} (h : (!inR v.lo (-50) 50) = true) : lohiE v = 3 := by rw [lohiE, h]; rfl
theorem lohi_2 {v : VarD} (h : (!inR v.hi (-50) 50) = true) : lohiE v = 3 := by rw [lohiE, h, Bool.or_true]; rfl
theorem lohi_3 {v : VarD} (h : decide (v.hi < v.lo) = true) : lohiE v = 3 := by rw [lohiE, h, Bool.or_true]; rfl
theorem lohi_4 {v : VarD} (h1 : (!inR v.lo (-50) 50) = false) (h2 : (!inR v.hi (-50) 50) = false) (h3 : decide (v.hi < v.lo) = false) : lohiE v = if 6 ≤ v.hi - v.lo then 2 else 0 := by rw [lohiE, h1, h2, h3]; rfl
theorem model_vars_ok (l : List VarD) : Sat Tryz.prog f_model_vars [.sl .var l] (dI (varsE l)) :=
  model_vars_sat l fun ok => by
    rw [model_vars_eq]
    refine err0 (I := fun n v => model_vars_I0 l _ n v) l (fun i v => varE (l.take i) v) (okLen (t := .var) (ok1 ok)) (X := fun x => D.int .i64 x = dI (varsE l)) (Y := D.int .i64 0 = dI (varsE l)) (fun _ => rfl) (fun e => dI_of e) (fun n k h _ hX hn => ?_) fun n hY => ?_
    · rw [model_vars_I0_eq, sel_lt h, at_nat (t := .var) h]
      refine ⟨inb_nat h, call1 (model_Name_ok _) (sel_intro (fun e => ?_) fun e => ?_)⟩
      · rw [varE_1 (by simpa using e)] at hX; exact hX (by decide)
      have k1 : ¬isNameS l[k].name = false := by simpa using e
      refine ⟨by unfold inSl; simp; omega, ?_⟩
      rw [show ((l.take (k : Int).toNat).drop 0) = l.take k by rw [Int.toNat_natCast, List.drop_zero]]
      refine call1 (slices_ContainsFunc_l_api_Var_api_Var_any (p := fun u => u.name.toList == l[k].name.toList) model_vars_1_ent fun x _ => model_vars_1_ok x _) (sel_intro (fun e => ?_) fun e => ?_)
      · rw [varE_2 k1 e] at hX; exact hX (by decide)
      rw [varE_3 k1 (by rw [e]; decide)] at hX hn
      refine call1 (model_within_ok _ _ _) (sel_intro (fun e => ?_) fun e1 => call1 (model_within_ok _ _ _) (sel_intro (fun e => ?_) fun e2 => (sel_intro (fun e => ?_) fun e3 => ?_)))
      · rw [lohi_1 e] at hX; exact hX (by decide)
      · rw [lohi_2 e] at hX; exact hX (by decide)
      · rw [lohi_3 e] at hX; exact hX (by decide)
      rw [lohi_4 e1 e2 e3] at hX hn
      simp [inR] at e1 e2
      rw [w64_eq (by omega) (by omega)]
      refine sel_intro (fun e => ?_) fun e => ?_
      · rw [if_pos (of_decide_eq_true e)] at hX; exact hX (by decide)
      · exact hn (if_neg (of_decide_eq_false e))
    · rw [model_vars_I0_eq, sel_end]; exact hY
theorem checkM_1 {m : MdlD} (h : m.vars.length = 0) : checkM m = 1 := by rw [checkM, if_pos h]
theorem checkM_2 {m : MdlD} (h1 : ¬m.vars.length = 0) (h : 6 < m.vars.length ∨ 8 < m.cons.length) : checkM m = 2 := by rw [checkM, if_neg h1, if_pos h]
theorem checkM_3 {m : MdlD} (h1 : ¬m.vars.length = 0) (h2 : ¬(6 < m.vars.length ∨ 8 < m.cons.length)) (h : varsE m.vars ≠ 0) : checkM m = varsE m.vars := by rw [checkM, if_neg h1, if_neg h2, if_pos h]
theorem checkM_4 {m : MdlD} (h1 : ¬m.vars.length = 0) (h2 : ¬(6 < m.vars.length ∨ 8 < m.cons.length)) (h3 : ¬varsE m.vars ≠ 0) (h : firstE (fun _ c => conE m.vars.length c) 0 m.cons ≠ 0) : checkM m = firstE (fun _ c => conE m.vars.length c) 0 m.cons := by rw [checkM, if_neg h1, if_neg h2, if_neg h3, if_pos h]
theorem checkM_5 {m : MdlD} (h1 : ¬m.vars.length = 0) (h2 : ¬(6 < m.vars.length ∨ 8 < m.cons.length)) (h3 : ¬varsE m.vars ≠ 0) (h : ¬firstE (fun _ c => conE m.vars.length c) 0 m.cons ≠ 0) : checkM m = goalE m := by rw [checkM, if_neg h1, if_neg h2, if_neg h3, if_neg h]
theorem goalE_1 {m : MdlD} (h : inR m.goal 0 2 = false) : goalE m = 7 := by rw [goalE, if_pos h]
theorem goalE_2 {m : MdlD} (h1 : ¬inR m.goal 0 2 = false) (h : m.goal = 0) (h2 : m.var ≠ 0) : goalE m = 1 := by rw [goalE, if_neg h1, if_pos ⟨h, h2⟩]
theorem goalE_3 {m : MdlD} (h1 : ¬inR m.goal 0 2 = false) (h : m.goal = 0) (h2 : ¬m.var ≠ 0) : goalE m = 0 := by rw [goalE, if_neg h1, if_neg (fun x => h2 x.2), if_neg (fun x => x.1 h)]
theorem goalE_4 {m : MdlD} (h1 : ¬inR m.goal 0 2 = false) (h : ¬m.goal = 0) (h2 : noneB m.vars.length m.var = true) : goalE m = 5 := by rw [goalE, if_neg h1, if_neg (fun x => h x.1), if_pos ⟨h, h2⟩]
theorem goalE_5 {m : MdlD} (h1 : ¬inR m.goal 0 2 = false) (h : ¬m.goal = 0) (h2 : ¬noneB m.vars.length m.var = true) : goalE m = 0 := by rw [goalE, if_neg h1, if_neg (fun x => h x.1), if_neg (fun x => h2 x.2)]
theorem model_Check_ok (m : MdlD) : Sat Tryz.prog f_model_Check [dM m] (dI (checkM m)) :=
  model_Check_sat m fun ok => by
    rw [model_Check_eq]
    refine sel_intro (fun e => ?_) fun e1 => sel_intro (fun e => ?_) fun e2 => sel_intro (fun e => ?_) fun e3 => ?_
    · exact dI_of (checkM_1 (by simp at e; simp [e]))
    · simp at e1 e; exact dI_of (checkM_2 (by simp [e1]) (.inl (by omega)))
    · simp at e1 e; exact dI_of (checkM_2 (by simp [e1]) (.inr (by omega)))
    simp at e1 e2 e3
    have k1 : ¬m.vars.length = 0 := by simp [e1]
    have k2 : ¬(6 < m.vars.length ∨ 8 < m.cons.length) := by omega
    refine call1 (model_vars_ok _) (sel_intro (fun e => ?_) fun e => ?_)
    · exact dI_of (checkM_3 k1 k2 (ne0_true e))
    have k3 : ¬varsE m.vars ≠ 0 := not_not_intro (ne0_false e)
    refine err0 (I := fun n v => model_Check_I1 m _ n v) m.cons (fun _ c => conE m.vars.length c) (by omega) (X := fun x => D.int .i64 x = dI (checkM m)) (Y := D.int .i64 (goalE m) = dI (checkM m)) (fun h => dI_of (checkM_4 k1 k2 k3 h)) (fun e => dI_of (checkM_5 k1 k2 k3 (not_not_intro e))) (fun n k h _ hX hn => ?_) fun n hY => ?_
    · rw [model_Check_I1_eq, sel_lt h, at_nat (t := .con) h]
      exact ⟨inb_nat h, call1 (model_con_ok m _ (by omega)) (sel_intro (fun e => hX (ne0_true e)) fun e => hn (ne0_false e))⟩
    · rw [model_Check_I1_eq, sel_end, ← hY]
      rw [w64_eq (by omega) (by omega)]
      refine sel_intro (fun e => ?_) fun e1 => sel_intro (fun e => ?_) fun e2 => ?_
      · rw [goalE_1 (inR_false.2 (.inl (of_decide_eq_true e)))]
      · rw [goalE_1 (inR_false.2 (.inr (of_decide_eq_true e)))]
      have k4 : ¬inR m.goal 0 2 = false := by rw [inR_false]; simp at e1 e2; omega
      refine sel_intro (fun e => sel_intro (fun f => ?_) fun f => ?_) fun e => ?_
      · rw [goalE_2 k4 (by simpa using e) (by simpa using f)]
      · have e' : m.goal = 0 := by simpa using e
        rw [e']
        rw [goalE_3 k4 e' (by simpa using f)]; exact rfl
      · have e' : ¬m.goal = 0 := by simpa using e
        rw [e]
        refine call1 (model_within_ok _ _ _) (sel_intro (fun f => ?_) fun f => ?_)
        · rw [goalE_4 k4 e' f]
        · rw [goalE_5 k4 e' (by show ¬ (!inR _ _ _) = true; rw [f]; decide)]
end Go.Proofs.YtogdmcebojiojaaGreatDoor

/- What the document's test of a model answers: the same. -/
namespace Go.Proofs.YtogdmcebojiojaaGreatDoor
open Go.RowKit
set_option linter.unusedVariables false
set_option linter.unusedSimpArgs false

theorem litE_op {nv : Nat} {l : LitD} (h : noneB nv l.var = false) : litE nv l = opE l := by rw [litE, if_neg (by rw [h]; decide)]; rfl
end Go.Proofs.YtogdmcebojiojaaGreatDoor

/- From a law's walk, told by the denotation, to what a claim's frame asks. -/
namespace Go.Proofs.YtogdmcebojiojaaGreatDoor
open Go.RowKit
set_option linter.unusedVariables false

variable {w : World} {S : Nat → Prop} {v : Value}
theorem rdV_agg {t : Ty} {x : t.den} (hn : (cells t x).length ≠ 1) (h : RdV w S v x) : Rp w S v (.agg (cells t x)) := by
  obtain ⟨cs, rfl, h⟩ := h
  have a1 := (rd_cells t h).len
  have a2 := fun i d hd => (rd_cells t h).at (i := i) (b := d) hd
  have e : vOf cs = .agg cs.toArray := by
    match cs, a1 with
    | [], _ => rfl
    | [u], a1 => exact absurd a1.symm hn
    | a :: b :: l, _ => rfl
  rw [e]
  refine .agg _ _ (by simpa using a1) fun i d hd => ?_
  obtain ⟨u, hu, hr⟩ := a2 i d hd
  have : cs.toArray.getD i Go.undef = u := by simp [Array.getD_eq_getD_getElem?, hu]
  rw [this]; exact hr
theorem rds_mdl {m : MdlD} (h : Rds w v m) : Rp w (fun b => b < w.heap.size) v (dM m) := rdV_agg (t := .mdl) (x := m) (by show 4 ≠ 1; decide) h
theorem rds_str {s : ByteArray} (h : s.size ≤ 140737488355328) : Rp w S (.string s) (.str s) := .str s h
theorem gok_tab {P : Program} {w : World} (h : Lib.TabIs P w "internal/strconv.uint64pow10" .u64 Lib.pow10Tab) : GOk P w fun _ => False := fun g hg => ⟨h, id⟩
theorem Sat.calls {P : Program} {f : FuncId} {args : List D} {b : Bool} (h : Sat P f args (.bool b)) (W : World) {vl : List Value} (hv : All2 (Rp W fun b => b < W.heap.size) vl args) (hg : GOk P W fun _ => False) :
    Calls P f vl.toArray W fun e W' => e = .returned (.bool b) ∧ Below W.heap.size W W' := by
  have h1 := hv.len
  have h2 := fun i d hd => hv.at (i := i) (b := d) hd
  refine (h W _ vl.toArray (fun _ h => h) (by simpa using h1) (fun i d hd => ?_) hg).mono fun e w' ⟨v, he, hr, hb⟩ => ?_
  · obtain ⟨u, hu, hr⟩ := h2 i d hd
    have : vl.toArray.getD i Go.undef = u := by simp [Array.getD_eq_getD_getElem?, hu]
    rw [this]; exact hr
  · cases hr
    exact ⟨he, hb⟩
end Go.Proofs.YtogdmcebojiojaaGreatDoor
