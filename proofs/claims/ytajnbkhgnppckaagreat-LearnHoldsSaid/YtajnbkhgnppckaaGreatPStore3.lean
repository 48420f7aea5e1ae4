/- What the program's calls of stores answer, and what the document says of them. -/
import Derived.Test.YtajnbkhgnppckaaGreatPStore2
namespace Go.Proofs.YtajnbkhgnppckaaGreat
open Go.RowKit
set_option linter.unusedVariables false
set_option linter.unusedSimpArgs false

def readyE (m : MdlD) (ss : List (List (List Int))) : Int := if checkM m ≠ 0 then checkM m else firstE (fun _ s => storeE m s) 0 ss
theorem readyE_1 {m : MdlD} {ss : List (List (List Int))} (h : checkM m ≠ 0) : readyE m ss = checkM m := if_pos h
theorem readyE_2 {m : MdlD} {ss : List (List (List Int))} (h : ¬checkM m ≠ 0) : readyE m ss = firstE (fun _ s => storeE m s) 0 ss := if_neg h
theorem store_ready_ok (m : MdlD) (ss : List (List (List Int))) : Sat Tryz.prog f_store_ready [dM m, .sl (.list (.list .int)) ss] (dI (readyE m ss)) :=
  store_ready_sat m ss fun ok => by
    rw [store_ready_eq]
    refine call1 (model_Check_ok m) (sel_intro (fun e => ?_) fun e => ?_)
    · exact dI_of (readyE_1 (ne0_true e))
    have k1 := not_not_intro (ne0_false e)
    refine err0 (I := fun n v => store_ready_I0 m ss _ n v) ss (fun _ s => storeE m s) (okLen (t := .list (.list .int)) (ok1 (okR ok))) (X := fun x => D.int .i64 x = dI (readyE m ss)) (Y := D.int .i64 0 = dI (readyE m ss)) (fun e => dI_of (readyE_2 k1)) (fun e => dI_of ((readyE_2 k1).trans e)) (fun n k h _ hX hn => ?_) fun n hY => ?_
    · rw [store_ready_I0_eq, sel_lt h, at_nat (t := .list (.list .int)) h]
      exact ⟨inb_nat h, call1 (store_right_ok m _) (sel_intro (fun e => hX (ne0_true e)) fun e => hn (ne0_false e))⟩
    · rw [store_ready_I0_eq, sel_end]; exact hY
theorem firstE_one {α : Type} {f : Nat → α → Int} {a : α} {i : Nat} : firstE f i [a] = f i a := by
  unfold firstE; split
  · rename_i h; rw [h]; rfl
  · rfl
theorem Right.lohi {m : MdlD} (h : Right m) : ∀ v ∈ m.vars, -50 ≤ v.lo ∧ v.hi ≤ 50 := fun v hv => by have := h.var v hv; omega
/-- What comes with an error. -/
def orS (e : Int) (s : List (List Int)) : List (List Int) := if e = 0 then s else []
def orB (e : Int) (b : Bool) : Bool := if e = 0 then b else false
theorem getD_at {α : Type} {t : List α} {k : Nat} (d : α) (h : k < t.length) : t.getD k d = t[k] := by rw [List.getD_eq_getElem?_getD, List.getElem?_eq_getElem h]; rfl
theorem len0 {l : List Int} : decide ((l.length : Int) = 0) = decide (l.length = 0) := decide_eq_decide.2 (by omega)
theorem store_Empty_1_ok (l : List Int) : Sat Tryz.prog f_store_Empty_1 [.sl .int l] (dB (decide (l.length = 0))) :=
  store_Empty_1_sat l fun ok => by rw [store_Empty_1_eq, len0]
theorem store_Empty_ok (s : List (List Int)) : Sat Tryz.prog f_store_Empty [dS s] (dB (failS s)) :=
  store_Empty_sat s fun ok => by rw [store_Empty_eq]; exact call1 (slices_ContainsFunc_api_Store_int_any store_Empty_1_ent fun x _ => store_Empty_1_ok x) rfl
theorem store_Check_ok (m : MdlD) (s : List (List Int)) : Sat Tryz.prog f_store_Check [dM m, dS s] (dI (readyE m [s])) :=
  store_Check_sat m s fun ok => by rw [store_Check_eq]; exact call1 (store_ready_ok m _) rfl
theorem zip_same {α : Type} [DecidableEq α] : ∀ (a b : List α), a.length = b.length → ((a.zip b).any fun x => !decide (x.1 = x.2)) = !decide (a = b)
  | [], [], _ => rfl
  | [], _ :: _, h => by simp at h
  | _ :: _, [], h => by simp at h
  | x :: a, y :: b, h => by
    rw [List.zip_cons_cons, List.any_cons, zip_same a b (by simpa using h)]
    by_cases h1 : x = y <;> by_cases h2 : a = b <;> simp [h1, h2]
theorem cordonref_SameInts_ok (a b : List Int) : Sat Tryz.prog f_cordonref_SameInts [.sl .int a, .sl .int b] (dB (decide (a = b))) :=
  cordonref_SameInts_sat a b fun ok => by
    have hl : a.length ≤ 9223372036854775807 := okLen (t := .int) (ok1 ok)
    rw [cordonref_SameInts_eq]
    refine sel_intro (fun e => ?_) fun e => ?_
    · rw [decide_eq_false (p := a = b) fun h => by subst h; simp at e]
    have e : a.length = b.length := by simp at e; omega
    have hz : (a.zip b).length = a.length := by rw [List.length_zip]; omega
    refine any0 (I := fun n v => cordonref_SameInts_I0 a b _ n v) (a.zip b) (fun x => !decide (x.1 = x.2)) (by omega) (X := dB false = dB (decide (a = b))) (Y := dB true = dB (decide (a = b))) (by rw [zip_same a b e]; cases decide (a = b) <;> rfl) (fun n k h hX hn => ?_) fun n hY => ?_
    · have hk : k < a.length := by omega
      rw [List.getElem_zip] at hX hn
      rw [cordonref_SameInts_I0_eq, sel_lt hk, at_nat (t := .int) hk, at_nat (t := .int) (show k < b.length by omega)]
      exact ⟨inb_nat hk, inb_nat (by omega), sel_intro hX hn⟩
    · rw [hz, cordonref_SameInts_I0_eq, sel_end]; exact hY
theorem cordonref_SameStore_ok (a b : List (List Int)) : Sat Tryz.prog f_cordonref_SameStore [dS a, dS b] (dB (decide (a = b))) :=
  cordonref_SameStore_sat a b fun ok => by
    have hl : a.length ≤ 9223372036854775807 := okLen (t := .list .int) (ok1 ok)
    rw [cordonref_SameStore_eq]
    refine sel_intro (fun e => ?_) fun e => ?_
    · rw [decide_eq_false (p := a = b) fun h => by subst h; simp at e]
    have e : a.length = b.length := by simp at e; omega
    have hz : (a.zip b).length = a.length := by rw [List.length_zip]; omega
    refine any0 (I := fun n v => cordonref_SameStore_I0 a b _ n v) (a.zip b) (fun x => !decide (x.1 = x.2)) (by omega) (X := dB false = dB (decide (a = b))) (Y := dB true = dB (decide (a = b))) (by rw [zip_same a b e]; cases decide (a = b) <;> rfl) (fun n k h hX hn => ?_) fun n hY => ?_
    · have hk : k < a.length := by omega
      rw [List.getElem_zip] at hX hn
      rw [cordonref_SameStore_I0_eq, sel_lt hk, at_nat (t := .list .int) hk, at_nat (t := .list .int) (show k < b.length by omega)]
      exact ⟨inb_nat hk, inb_nat (by omega), call1 (cordonref_SameInts_ok _ _) (sel_intro hX hn)⟩
    · rw [hz, cordonref_SameStore_I0_eq, sel_end]; exact hY
end Go.Proofs.YtajnbkhgnppckaaGreat
