/- What it means that a constraint holds of values, and that the program tells it. -/
import Derived.Test.YtonkbljpcgadlaaGreatPLit2
import Derived.Test.YtonkbljpcgadlaaGreatWModel
namespace Go.Proofs.YtonkbljpcgadlaaGreat
open Go.RowKit
set_option linter.unusedVariables false
set_option linter.unusedSimpArgs false

/-! ### In plain words -/
/-- A constraint that is right, of so many values, none of them far. -/
structure RightC (c : ConD) (nv : Nat) : Prop where
  nv6 : nv ≤ 6
  kind : 1 ≤ c.kind ∧ c.kind ≤ 10
  many : c.vars.length ≤ 4 ∧ c.lits.length ≤ 4 ∧ c.consts.length ≤ 8 ∧ c.rows.length ≤ 20
  form : formB c = true
  vars : ∀ v ∈ c.vars, 0 ≤ v ∧ v < nv
  consts : ∀ n ∈ c.consts, -1000 ≤ n ∧ n ≤ 1000
  n : -1000 ≤ c.n ∧ c.n ≤ 1000
  rows : ∀ r ∈ c.rows, ∀ n ∈ r, -1000 ≤ n ∧ n ≤ 1000
  lits : ∀ l ∈ c.lits, litE nv l = 0
structure FormC (c : ConD) : Prop where
  sums : c.kind ≤ 3 → 1 ≤ c.vars.length ∧ c.consts.length = c.vars.length
  differ : c.kind = 4 → 1 ≤ c.vars.length
  element : c.kind = 5 → c.vars.length = 2 ∧ 1 ≤ c.consts.length
  table : c.kind = 6 → 1 ≤ c.vars.length ∧ ∀ r ∈ c.rows, r.length = c.vars.length
  times : c.kind = 7 → c.vars.length = 3
  max : c.kind = 8 → 2 ≤ c.vars.length
  clause : c.kind = 9 → c.vars.length = 0
  iff : c.kind = 10 → c.vars.length = 1 ∧ c.lits.length = 1
structure GoodV (vs : List Int) (nv : Nat) : Prop where
  len : vs.length = nv
  near : ∀ n ∈ vs, -50 ≤ n ∧ n ≤ 50
theorem GoodV.at {vs : List Int} {nv : Nat} (h : GoodV vs nv) (i : Nat) : -50 ≤ vs.getD i 0 ∧ vs.getD i 0 ≤ 50 := by
  by_cases hi : i < vs.length
  · rw [getD_at _ hi]; exact h.near _ (List.getElem_mem hi)
  · rw [List.getD_eq_getElem?_getD, List.getElem?_eq_none (by omega)]; decide
/-! ### A map from what is different -/
/-- The keys of a map that was filled with some values, one behind the other. -/
def keysOf : List Int → List Int → List Int
  | ks, [] => ks
  | ks, x :: xs => keysOf (if x ∈ ks then ks else ks ++ [x]) xs
theorem keysOf_len : ∀ (xs ks : List Int), (keysOf ks xs).length ≤ ks.length + xs.length
  | [], ks => by simp [keysOf]
  | x :: xs, ks => by
    rw [keysOf]
    have := keysOf_len xs (if x ∈ ks then ks else ks ++ [x])
    rw [List.length_cons]
    split at this <;> simp at this ⊢ <;> simp_all <;> omega
end Go.Proofs.YtonkbljpcgadlaaGreat
