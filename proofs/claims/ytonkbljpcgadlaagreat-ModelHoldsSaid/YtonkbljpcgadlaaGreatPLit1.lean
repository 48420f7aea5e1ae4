/- What the program's and the document's calls of literals answer. -/
import Derived.Test.YtonkbljpcgadlaaGreatPStore5
import Derived.Test.YtonkbljpcgadlaaGreatWLit
namespace Go.Proofs.YtonkbljpcgadlaaGreat
open Go.RowKit
set_option linter.unusedVariables false
set_option linter.unusedSimpArgs false

def holdsL (l : LitD) (n : Int) : Bool := if l.op = 1 then decide (n ≤ l.n) else if l.op = 2 then decide (l.n ≤ n) else if l.op = 3 then decide (n = l.n) else !decide (n = l.n)
theorem model_Lit_ok (l : LitD) (n : Int) : Sat Tryz.prog f_model_Lit [dL l, dI n] (dB (holdsL l n)) :=
  model_Lit_sat l n fun ok => by
    rw [model_Lit_eq]
    refine sel_intro (fun e1 => ?_) fun e1 => sel_intro (fun e2 => ?_) fun e2 => sel_intro (fun e3 => ?_) fun e3 => ?_ <;> simp at * <;> simp [holdsL, *]
theorem cordonref_LitHolds_ok (l : LitD) (n : Int) (h : inR l.op 1 4 = true) : Sat Tryz.prog f_cordonref_LitHolds [dL l, dI n] (dB (holdsL l n)) :=
  cordonref_LitHolds_sat l n fun ok => by
    rw [cordonref_LitHolds_eq]
    obtain ⟨h1, h2⟩ := inR_true.1 h
    have h3 : l.op = 1 ∨ l.op = 2 ∨ l.op = 3 ∨ l.op = 4 := by omega
    rcases h3 with h | h | h | h <;> simp only [h, holdsL, Int.reduceEq, if_true, if_false, decide_true, decide_false, sel_true, sel_false] <;> (repeat' (refine sel_intro (fun _ => ?_) (fun _ => ?_))) <;> simp_all
theorem litE_1 {nv : Nat} {l : LitD} (h : noneB nv l.var = true) : litE nv l = 5 := if_pos h
theorem litE_2 {nv : Nat} {l : LitD} (h1 : ¬noneB nv l.var = true) (h : inR l.op 1 4 = false) : litE nv l = 7 := by rw [litE, if_neg h1, if_pos h]
theorem litE_3 {nv : Nat} {l : LitD} (h1 : ¬noneB nv l.var = true) (h2 : ¬inR l.op 1 4 = false) (h : farB l.n = true) : litE nv l = 3 := by rw [litE, if_neg h1, if_neg h2, if_pos h]
theorem litE_4 {nv : Nat} {l : LitD} (h1 : ¬noneB nv l.var = true) (h2 : ¬inR l.op 1 4 = false) (h : ¬farB l.n = true) : litE nv l = 0 := by rw [litE, if_neg h1, if_neg h2, if_neg h]
theorem litE_zero {nv : Nat} {l : LitD} : litE nv l = 0 ↔ (0 ≤ l.var ∧ l.var < nv) ∧ (1 ≤ l.op ∧ l.op ≤ 4) ∧ -1000 ≤ l.n ∧ l.n ≤ 1000 := by
  by_cases h1 : noneB nv l.var = true
  · rw [litE_1 h1]
    simp [noneB, inR] at h1
    exact ⟨fun h => absurd h (by decide), fun h => by omega⟩
  by_cases h2 : inR l.op 1 4 = false
  · rw [litE_2 h1 h2]
    rw [inR_false] at h2
    exact ⟨fun h => absurd h (by decide), fun h => by omega⟩
  by_cases h3 : farB l.n = true
  · rw [litE_3 h1 h2 h3]
    simp [farB, inR] at h3
    exact ⟨fun h => absurd h (by decide), fun h => by omega⟩
  · rw [litE_4 h1 h2 h3]
    simp [noneB, farB, inR] at h1 h2 h3
    exact ⟨fun _ => by omega, fun _ => rfl⟩
end Go.Proofs.YtonkbljpcgadlaaGreat
