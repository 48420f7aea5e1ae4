/- What the program's calls of clauses answer. -/
import Derived.Test.YtajnbkhgnppckaaGreatPLit4
import Derived.Test.YtajnbkhgnppckaaGreatWClause
namespace Go.Proofs.YtajnbkhgnppckaaGreat
open Go.RowKit
set_option linter.unusedVariables false
set_option linter.unusedSimpArgs false

theorem clone_ints (l : List Int) : SatH Tryz.prog f_slices_Clone_l_int_int [.sl .int l] [] (.own 3000) [(3000, .row 3 .int l)] :=
  slices_Clone_l_int_int_sat l fun ok _ => by
    rw [slices_Clone_l_int_int_eq]
    intro b hb
    refine sel_intro (fun e => ?_) fun e => ⟨?_, ?_⟩
    · rw [hb e]; exact ⟨rfl, rfl⟩
    · refine room_of (t := .int) ?_
      have := (ok_list (t := .int) (ok1 ok)).1
      show (0 + l.length) * 8 ≤ _
      have h8 : l.length * 8 ≤ 140737488355328 := this
      omega
    · exact ⟨rfl, rfl⟩
theorem store_Own_ok (s : List (List Int)) : Sat Tryz.prog f_store_Own [dS s] (dS s) :=
  store_Own_sat s fun ok => by
    have hs : okStore s := ok_list (ok1 ok)
    have hsl := store_len hs
    rw [store_Own_eq]
    refine up (I := fun n v a => store_Own_I0 s _ n v a) 0 s.length rfl (Nat.zero_le _) (by omega) (fun k a => a = s.take k) rfl fun n k a _ hk ha hn => ?_
    subst ha
    rw [store_Own_I0_eq]
    by_cases h : k < s.length
    · rw [sel_lt h, at_nat (t := .list .int) h]
      refine ⟨inb_nat h, _, clone_ints _, room_of (t := .list .int) ?_, hn h _ (List.take_append_getElem h)⟩
      rw [List.length_take]
      show (_ + 1) * 24 ≤ _
      omega
    · have hk' : k = s.length := by omega
      subst hk'
      rw [sel_end, List.take_length]
def noneS (s : List (List Int)) : List (List Int) := List.replicate s.length []
theorem store_Nothing_ok (s : List (List Int)) : Sat Tryz.prog f_store_Nothing [dS s] (dS (noneS s)) :=
  store_Nothing_sat s fun ok => by
    have hs : okStore s := ok_list (ok1 ok)
    have hsl := store_len hs
    rw [store_Nothing_eq]
    refine ⟨rfl, by omega, room_of (t := .list .int) ?_, rfl⟩
    rw [Int.toNat_natCast]
    show _ * 24 ≤ _
    omega
def clauseE (nv : Nat) (c : List LitD) : Int := if 40 < c.length then 2 else firstE (fun _ l => litE nv l) 0 c
theorem clause_Right_ok (m : MdlD) (c : List LitD) : Sat Tryz.prog f_clause_Right [dM m, .sl .lit c] (dI (clauseE m.vars.length c)) :=
  clause_Right_sat m c fun ok => by
    rw [clause_Right_eq]
    refine sel_intro (fun e => ?_) fun e => ?_
    · exact dI_of (if_pos (by simp at e; omega))
    have e : ¬40 < c.length := by simp at e; omega
    rw [show clauseE m.vars.length c = firstE (fun _ l => litE m.vars.length l) 0 c from if_neg e]
    refine err0 (I := fun n v => clause_Right_I0 m c _ n v) c (fun _ l => litE m.vars.length l) (by omega) (X := fun x => D.int .i64 x = dI (firstE (fun _ l => litE m.vars.length l) 0 c)) (Y := D.int .i64 0 = dI (firstE (fun _ l => litE m.vars.length l) 0 c)) (fun _ => rfl) (fun e => dI_of e) (fun n k h _ hX hn => ?_) fun n hY => ?_
    · rw [clause_Right_I0_eq, sel_lt h, at_nat (t := .lit) h]
      exact ⟨inb_nat h, call1 (lit_Right_ok m _) (sel_intro (fun e => hX (ne0_true e)) fun e => hn (ne0_false e))⟩
    · rw [clause_Right_I0_eq, sel_end]; exact hY
theorem clauseE_zero {nv : Nat} {c : List LitD} (h : clauseE nv c = 0) : c.length ≤ 40 ∧ ∀ l ∈ c, litE nv l = 0 := by
  unfold clauseE at h
  split at h
  · exact absurd h (by decide)
  rename_i h1
  refine ⟨by omega, fun l hl => ?_⟩
  obtain ⟨i, hi, rfl⟩ := List.getElem_of_mem hl
  exact firstE_idx h hi
def chkC (m : MdlD) (c : List LitD) : Int := if checkM m ≠ 0 then checkM m else clauseE m.vars.length c
theorem chkC_1 {m : MdlD} {c : List LitD} (h : checkM m ≠ 0) : chkC m c = checkM m := if_pos h
theorem chkC_2 {m : MdlD} {c : List LitD} (h : checkM m = 0) : chkC m c = clauseE m.vars.length c := if_neg (not_not_intro h)
theorem chkC_zero {m : MdlD} {c : List LitD} (h : chkC m c = 0) : checkM m = 0 ∧ clauseE m.vars.length c = 0 := by
  by_cases h1 : checkM m = 0
  · exact ⟨h1, by rw [chkC_2 h1] at h; exact h⟩
  · rw [chkC_1 h1] at h; exact absurd h h1
theorem clause_Check_ok (m : MdlD) (c : List LitD) : Sat Tryz.prog f_clause_Check [dM m, .sl .lit c] (dI (chkC m c)) :=
  clause_Check_sat m c fun ok => by
    rw [clause_Check_eq]
    refine call1 (model_Check_ok m) (sel_intro (fun e => ?_) fun e => ?_)
    · exact dI_of (chkC_1 (ne0_true e))
    · exact call1 (clause_Right_ok m c) (dI_of (chkC_2 (ne0_false e)))
/-- Whether a clause holds of values. -/
def holdsC (c : List LitD) (vs : List Int) : Bool := c.any fun l => holdsL l (vs.getD l.var.toNat 0)
theorem clause_Holds_1_ok {l : LitD} {vs : List Int} (h : 0 ≤ l.var ∧ l.var < vs.length) : Sat Tryz.prog f_clause_Holds_1 [dL l, .iptr [.sl .int vs] 0] (dB (holdsL l (vs.getD l.var.toNat 0))) :=
  clause_Holds_1_sat l vs fun ok => by
    rw [clause_Holds_1_eq]
    exact ⟨inb_iff.2 (by omega), call1 (model_Lit_ok l _) rfl⟩
def holdE (m : MdlD) (c : List LitD) (vs : List Int) : Int := if chkC m c ≠ 0 then chkC m c else if vs.length ≠ m.vars.length then 1 else 0
theorem clause_Holds_ok (m : MdlD) (c : List LitD) (vs : List Int) : Sat Tryz.prog f_clause_Holds [dM m, .sl .lit c, .sl .int vs] (.tup [dB (orB (holdE m c vs) (holdsC c vs)), dI (holdE m c vs)]) :=
  clause_Holds_sat m c vs fun ok => by
    rw [clause_Holds_eq]
    refine call1 (clause_Check_ok m c) (sel_intro (fun e => ?_) fun e => ?_)
    · have e := ne0_true e
      rw [show holdE m c vs = chkC m c from if_pos e, orB1 e]
    have e := ne0_false e
    obtain ⟨h1, h2⟩ := chkC_zero e
    have h3 := (clauseE_zero h2).2
    refine sel_intro (fun f => ?_) fun f => ?_
    · have : holdE m c vs = 1 := by rw [holdE, if_neg (not_not_intro e), if_pos (by simp at f; omega)]
      rw [this]; rfl
    · have fl : vs.length = m.vars.length := by simp at f; omega
      have : holdE m c vs = 0 := by rw [holdE, if_neg (not_not_intro e), if_neg (not_not_intro fl)]
      rw [this]
      exact call1 (slices_ContainsFunc_api_Clause_api_Lit_any (p := fun l => holdsL l (vs.getD l.var.toNat 0)) clause_Holds_1_ent fun l hl => clause_Holds_1_ok (by have := (litE_zero.1 (h3 l hl)).1; omega)) rfl
def rdyC (m : MdlD) (s : List (List Int)) (c : List LitD) : Int := if readyE m [s] ≠ 0 then readyE m [s] else clauseE m.vars.length c
theorem rdyC_1 {m : MdlD} {s : List (List Int)} {c : List LitD} (h : readyE m [s] ≠ 0) : rdyC m s c = readyE m [s] := if_pos h
theorem rdyC_2 {m : MdlD} {s : List (List Int)} {c : List LitD} (h : readyE m [s] = 0) : rdyC m s c = clauseE m.vars.length c := if_neg (not_not_intro h)
theorem rdyC_zero {m : MdlD} {s : List (List Int)} {c : List LitD} (h : rdyC m s c = 0) : checkM m = 0 ∧ storeE m s = 0 ∧ clauseE m.vars.length c = 0 := by
  by_cases h1 : readyE m [s] = 0
  · rw [rdyC_2 h1] at h
    have h2 := ready_check h1
    rw [readyE_2 (not_not_intro h2), firstE_one] at h1
    exact ⟨h2, h1, h⟩
  · rw [rdyC_1 h1] at h; exact absurd h h1
theorem clause_ready_ok (m : MdlD) (s : List (List Int)) (c : List LitD) : Sat Tryz.prog f_clause_ready [dM m, dS s, .sl .lit c] (dI (rdyC m s c)) :=
  clause_ready_sat m s c fun ok => by
    rw [clause_ready_eq]
    refine call1 (store_Check_ok m s) (sel_intro (fun e => ?_) fun e => ?_)
    · exact dI_of (rdyC_1 (ne0_true e))
    · exact call1 (clause_Right_ok m c) (dI_of (rdyC_2 (ne0_false e)))
/-- Whether some literal of one variable holds. -/
def atC (c : List LitD) (v : Int) (n : Int) : Bool := c.any fun l => if l.var = v then holdsL l n else false
theorem clause_Put_1_1_ok (l : LitD) (v n : Int) : Sat Tryz.prog f_clause_Put_1_1 [dL l, .iptr [dI v] 0, .iptr [dI n] 0] (dB (if l.var = v then holdsL l n else false)) :=
  clause_Put_1_1_sat l v n fun ok => by
    rw [clause_Put_1_1_eq]
    refine sel_intro (fun e => ?_) fun e => ?_
    · rw [if_pos (of_decide_eq_true e)]; exact call1 (model_Lit_ok l n) rfl
    · rw [if_neg (of_decide_eq_false e)]
theorem clause_Put_1_ok (n : Int) (c : List LitD) (v : Int) : Sat Tryz.prog f_clause_Put_1 [dI n, .iptr [.sl .lit c] 0, .iptr [dI v] 0] (dB (atC c v n)) :=
  clause_Put_1_sat n c v fun ok => by
    rw [clause_Put_1_eq]
    exact call1 (slices_ContainsFunc_api_Clause_api_Lit_any clause_Put_1_1_ent fun l _ => clause_Put_1_1_ok l v n) rfl
theorem clause_Put_2_ok (w n v : Int) (c : List LitD) : Sat Tryz.prog f_clause_Put_2 [dI w, dI n, .iptr [dI v] 0, .iptr [.clo f_clause_Put_1 none [.iptr [.sl .lit c] 0, .iptr [dI v] 0]] 0] (dB (!decide (w = v) || atC c v n)) :=
  Sat.iclo (pre := [_, _, _]) (clause_Put_2_sat w n v f_clause_Put_1 [.iptr [.sl .lit c] 0, .iptr [dI v] 0] fun ok => by
    rw [clause_Put_2_eq]
    refine sel_intro (fun e => ?_) fun e => ⟨clause_Put_1_ent, call1 (clause_Put_1_ok n c v) ?_⟩
    · rw [e]; rfl
    · rw [e]; rfl)
theorem clause_Without_1_1_ok (l : LitD) (v n : Int) : Sat Tryz.prog f_clause_Without_1_1 [dL l, .iptr [dI v] 0, .iptr [dI n] 0] (dB (if l.var = v then holdsL l n else false)) :=
  clause_Without_1_1_sat l v n fun ok => by
    rw [clause_Without_1_1_eq]
    refine sel_intro (fun e => ?_) fun e => ?_
    · rw [if_pos (of_decide_eq_true e)]; exact call1 (model_Lit_ok l n) rfl
    · rw [if_neg (of_decide_eq_false e)]
theorem clause_Without_1_ok (v n : Int) (c : List LitD) : Sat Tryz.prog f_clause_Without_1 [dI v, dI n, .iptr [.sl .lit c] 0] (dB (!atC c v n)) :=
  clause_Without_1_sat v n c fun ok => by
    rw [clause_Without_1_eq]
    exact call1 (slices_ContainsFunc_api_Clause_api_Lit_any clause_Without_1_1_ent fun l _ => clause_Without_1_1_ok l v n) rfl
def denyC (s : List (List Int)) (c : List LitD) : List (List Int) := keepS (fun v n => !atC c v n) s
theorem clause_Without_ok (s : List (List Int)) (c : List LitD) : Sat Tryz.prog f_clause_Without [dS s, .sl .lit c] (dS (denyC s c)) :=
  clause_Without_sat s c fun ok => by
    rw [clause_Without_eq]
    exact call1 (store_Keep_ok (f := fun v n => !atC c v n) clause_Without_1_ent fun v hv n hn => clause_Without_1_ok v n c) rfl
def keepC (s : List (List Int)) (c : List LitD) (one : Int) : List (List Int) := keepS (fun v n => !decide ((v : Int) = one) || atC c one n) s
/-- What is put by a clause: from some literal on, with the one variable so far. -/
def putC (s : List (List Int)) (c : List LitD) : List LitD → Int → List (List Int)
  | [], one => if one < 0 then noneS s else keepC s c one
  | l :: ls, one => if toldL s l < 0 then putC s c ls one else if 0 ≤ one ∧ one ≠ l.var then s else putC s c ls l.var
def unitC (s : List (List Int)) (c : List LitD) : List (List Int) := if failS s = true then s else putC s c c (-1)
theorem clause_Put_ok {s : List (List Int)} {c : List LitD} (hc : ∀ l ∈ c, 0 ≤ l.var ∧ l.var < s.length) : Sat Tryz.prog f_clause_Put [dS s, .sl .lit c] (dS (unitC s c)) :=
  clause_Put_sat s c fun ok => by
    have hl : c.length ≤ 9223372036854775807 := okLen (t := .lit) (ok1 (okR ok))
    rw [clause_Put_eq]
    refine call1 (store_Empty_ok s) (sel_intro (fun e => ?_) fun e => ?_)
    · rw [unitC, if_pos e]
      exact call1 (store_Own_ok s) rfl
    rw [unitC, if_neg (by rw [e]; decide)]
    refine up (I := fun n v a => clause_Put_I0 s c _ n v a) 0 c.length rfl (Nat.zero_le _) (by omega) (fun k a => putC s c (c.drop k) a = putC s c c (-1)) (by rw [List.drop_zero]) fun n k a _ hk ha hn => ?_
    rw [clause_Put_I0_eq]
    by_cases h : k < c.length
    · rw [sel_lt h, at_nat (t := .lit) h]
      rw [List.drop_eq_getElem_cons h, putC] at ha
      refine ⟨inb_nat h, call1 (lit_Says_ok (hc _ (List.getElem_mem h))) (sel_intro (fun e => ?_) fun e => ?_)⟩
      · rw [if_pos (of_decide_eq_true e)] at ha
        exact hn h _ ha
      rw [if_neg (of_decide_eq_false e)] at ha
      refine sel_intro (fun f => sel_intro (fun g => ?_) fun g => ?_) fun f => ?_
      · rw [if_pos ⟨of_decide_eq_true f, by simpa using g⟩] at ha
        rw [← ha]
        exact call1 (store_Own_ok s) rfl
      · rw [if_neg (fun x => x.2 (by simpa using g))] at ha
        exact hn h _ ha
      · rw [if_neg (fun x => of_decide_eq_false f x.1)] at ha
        exact hn h _ ha
    · have hk' : k = c.length := by omega
      subst hk'
      rw [List.drop_length, putC] at ha
      rw [sel_end, ← ha]
      refine sel_intro (fun e => ?_) fun e => ?_
      · rw [if_pos (of_decide_eq_true e)]
        exact call1 (store_Nothing_ok s) rfl
      · rw [if_neg (of_decide_eq_false e)]
        exact call1 (store_Keep_ok (f := fun v n => !decide ((v : Int) = a) || atC c a n) clause_Put_2_ent fun v hv n hn => clause_Put_2_ok v n a c) rfl
theorem clause_Unit_ok (m : MdlD) (s : List (List Int)) (c : List LitD) : Sat Tryz.prog f_clause_Unit [dM m, dS s, .sl .lit c] (.tup [dS (orS (rdyC m s c) (unitC s c)), dI (rdyC m s c)]) :=
  clause_Unit_sat m s c fun ok => by
    rw [clause_Unit_eq]
    refine call1 (clause_ready_ok m s c) (sel_intro (fun e => ?_) fun e => ?_)
    · rw [orS1 (ne0_true e)]
    · have h := rdyC_zero (ne0_false e)
      have hl := storeE_len h.2.1
      rw [orS0 (ne0_false e), ne0_false e]
      exact call1 (clause_Put_ok fun l hl => by have := (litE_zero.1 ((clauseE_zero h.2.2).2 l hl)).1; omega) rfl
theorem clause_Deny_ok (m : MdlD) (s : List (List Int)) (c : List LitD) : Sat Tryz.prog f_clause_Deny [dM m, dS s, .sl .lit c] (.tup [dS (orS (rdyC m s c) (denyC s c)), dI (rdyC m s c)]) :=
  clause_Deny_sat m s c fun ok => by
    rw [clause_Deny_eq]
    refine call1 (clause_ready_ok m s c) (sel_intro (fun e => ?_) fun e => ?_)
    · rw [orS1 (ne0_true e)]
    · rw [orS0 (ne0_false e), ne0_false e]
      exact call1 (clause_Without_ok s c) rfl
end Go.Proofs.YtajnbkhgnppckaaGreat
