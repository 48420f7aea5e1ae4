/- What the program's and the document's calls of stores answer. -/
import Derived.Test.YtajnbkhgnppckaaGreatPStore1
namespace Go.Proofs.YtajnbkhgnppckaaGreat
open Go.RowKit
set_option linter.unusedVariables false
set_option linter.unusedSimpArgs false

/-! ### A model that is right -/
theorem firstE_idx {α : Type} {f : Nat → α → Int} {xs : List α} (h : firstE f 0 xs = 0) {j : Nat} (hj : j < xs.length) : f j xs[j] = 0 := by
  have := firstE_zero xs 0 h j hj
  rwa [Nat.zero_add] at this
structure Right (m : MdlD) : Prop where
  vars : m.vars.length ≤ 6
  some : m.vars.length ≠ 0
  cons : m.cons.length ≤ 8
  var : ∀ v ∈ m.vars, -50 ≤ v.lo ∧ v.hi ≤ 50 ∧ v.lo ≤ v.hi ∧ v.hi - v.lo < 6
  con : ∀ c ∈ m.cons, conE m.vars.length c = 0
  goal : goalE m = 0
theorem right_of {m : MdlD} (h : checkM m = 0) : Right m := by
  unfold checkM at h
  split at h
  · exact absurd h (by decide)
  rename_i h1
  split at h
  · exact absurd h (by decide)
  rename_i h2
  split at h
  · rename_i h3; exact absurd h h3
  rename_i h3
  split at h
  · rename_i h4; exact absurd h h4
  rename_i h4
  have h3 := Decidable.not_not.1 h3
  have h4 := Decidable.not_not.1 h4
  refine ⟨by omega, h1, by omega, fun v hv => ?_, fun c hc => ?_, h⟩
  · obtain ⟨i, hi, rfl⟩ := List.getElem_of_mem hv
    have e := firstE_idx h3 hi
    unfold varE at e
    split at e
    · exact absurd e (by decide)
    split at e
    · exact absurd e (by decide)
    split at e
    · exact absurd e (by decide)
    split at e
    · exact absurd e (by decide)
    rename_i h5 h6
    simp [inR] at h5
    omega
  · obtain ⟨i, hi, rfl⟩ := List.getElem_of_mem hc
    exact firstE_idx h4 hi

/-! ### The test of a store -/
theorem disUp {I : Nat → Int → Prop} (l : List Int) (hl : l.length ≤ 9223372036854775806) {X : Prop} (hX : disL l = true → X)
    (hin : ∀ n (k : Nat) (h : k + 1 < l.length), (decide (l[k + 1] ≤ l[k]) = true → X) → (decide (l[k + 1] ≤ l[k]) = false → I n (w64 (((k + 1 : Nat) : Int) + 1))) → I (n + 1) ((k + 1 : Nat) : Int))
    (hout : disL l = false → ∀ n (k : Nat), l.length ≤ k → I (n + 1) (k : Int)) : ∃ n, I n 1 := by
  have hz : (l.zip l.tail).length = l.length - 1 := by rw [List.length_zip, List.length_tail]; omega
  refine anyUp (I := I) 1 (l.zip l.tail) (fun x => decide (x.2 ≤ x.1)) rfl (by omega) (X := X) (Y := disL l = false) (sel_intro hX id) (fun n k h h1 h2 => ?_) fun n h => hout h n _ (by omega)
  have hk : k + 1 < l.length := by omega
  have e : (l.zip l.tail)[k] = (l[k], l[k + 1]) := by rw [List.getElem_zip, List.getElem_tail]
  rw [e] at h1 h2
  exact hin n k hk h1 h2
theorem store_right_1_ok (n : Int) (v : VarD) : Sat Tryz.prog f_store_right_1 [dI n, .iptr [.str v.name, .int .i64 v.lo, .int .i64 v.hi] 0] (dB (outV v n)) :=
  store_right_1_sat n v fun ok => by
    rw [store_right_1_eq]
    refine sel_intro (fun e => ?_) fun e => ?_
    · rw [outV, e]; rfl
    · rw [outV, e]; rfl
theorem storeE_1 {m : MdlD} {s : List (List Int)} (h : s.length ≠ m.vars.length) : storeE m s = 1 := if_pos h
theorem storeE_2 {m : MdlD} {s : List (List Int)} (h1 : ¬s.length ≠ m.vars.length) (h : outB m s = true) : storeE m s = 3 := by rw [storeE, if_neg h1, if_pos h]
theorem storeE_3 {m : MdlD} {s : List (List Int)} (h1 : ¬s.length ≠ m.vars.length) (h2 : ¬outB m s = true) (h : s.any disL = true) : storeE m s = 4 := by rw [storeE, if_neg h1, if_neg h2, if_pos h]
theorem storeE_4 {m : MdlD} {s : List (List Int)} (h1 : ¬s.length ≠ m.vars.length) (h2 : ¬outB m s = true) (h : ¬s.any disL = true) : storeE m s = 0 := by rw [storeE, if_neg h1, if_neg h2, if_neg h]
theorem storeE_len {m : MdlD} {s : List (List Int)} (h : storeE m s = 0) : s.length = m.vars.length := by
  unfold storeE at h
  split at h
  · exact absurd h (by decide)
  · omega
theorem store_right_ok (m : MdlD) (s : List (List Int)) : Sat Tryz.prog f_store_right [dM m, dS s] (dI (storeE m s)) :=
  store_right_sat m s fun ok => by
    have hs : okStore s := ok_list (ok1 (okR ok))
    have hsl := store_len hs
    rw [store_right_eq]
    refine sel_intro (fun e => ?_) fun e => ?_
    · exact dI_of (storeE_1 (by simp at e; omega))
    have k1 : s.length = m.vars.length := by simp at e; omega
    have k1' := not_not_intro k1
    have hz : (s.zip m.vars).length = s.length := by rw [List.length_zip]; omega
    refine any1 (I := fun n v => store_right_I0 m s _ n v) (s.zip m.vars) (fun x => x.1.any (outV x.2)) (by omega) (X := D.int .i64 3 = dI (storeE m s)) (fun e => dI_of (storeE_2 k1' e)) (fun n k h hX hn => ?_) fun e n => ?_
    · have hk : k < s.length := by omega
      rw [List.getElem_zip] at hX hn
      rw [store_right_I0_eq, sel_lt hk, at_nat (t := .list .int) hk, at_nat (t := .var) (show k < m.vars.length by omega)]
      exact ⟨inb_nat hk, inb_nat (by omega), call1 (slices_ContainsFunc_l_int_int_any store_right_1_ent fun x _ => store_right_1_ok x _) (sel_intro hX hn)⟩
    rw [hz, store_right_I0_eq, sel_end]
    have k2 : ¬outB m s = true := by rw [outB, e]; decide
    refine any1 (I := fun n v => store_right_I2 s _ n v) s disL (by omega) (X := D.int .i64 4 = dI (storeE m s)) (fun e => dI_of (storeE_3 k1' k2 e)) (fun n k h hX hn => ?_) fun e n => ?_
    · have hr := store_row hs h
      rw [store_right_I2_eq, sel_lt h]
      refine ⟨inb_nat h, disUp (I := fun n2 v => store_right_I4 s _ n k n2 v) s[k] (by omega) hX (fun n2 j hj h1 h2 => ?_) fun e n2 j hj => ?_⟩
      · rw [store_right_I4_eq, at_nat (t := .list .int) h, sel_lt hj, w64_eq (by omega) (by omega), show (((j + 1 : Nat) : Int) - 1) = (j : Int) by omega, at_nat (t := .int) hj, at_nat (t := .int) (show j < s[k].length by omega)]
        exact ⟨inb_nat hj, inb_nat (by omega), sel_intro h1 h2⟩
      · rw [store_right_I4_eq, at_nat (t := .list .int) h, lt_nat, decide_eq_false (by omega)]
        exact hn e
    rw [store_right_I2_eq, sel_end]
    exact dI_of (storeE_4 k1' k2 (by rw [e]; decide))
end Go.Proofs.YtajnbkhgnppckaaGreat
