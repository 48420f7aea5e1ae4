/- Texts of this proof, one behind the other: nothing is handed in but what is proved here; no condition. -/
import Derived.Test.YtgnjdgafkjohaaaGreatMG
import Derived.Test.YtgnjdgafkjohaaaGreatWFix
/- What is left when nothing changes any more: the program's runs. -/
namespace Go.Proofs.YtgnjdgafkjohaaaGreat
open Go.RowKit
set_option linter.unusedVariables false
set_option linter.unusedSimpArgs false

/-! ### The operators -/
/-- A model that is right, and clauses of it. -/
structure RightMC (m : MdlD) (l : List (List LitD)) : Prop where
  right : Right m
  cons : ∀ c ∈ m.cons, RightC c m.vars.length
  lits : ∀ c ∈ l, ∀ x ∈ c, 0 ≤ x.var ∧ x.var < (m.vars.length : Int)
theorem RightMC.pos {m : MdlD} {l : List (List LitD)} (h : RightMC m l) : 0 < m.vars.length := by have := h.right.some; omega
/-! ### A round -/
/-- Behind some operators: within, and where nothing changed at all they are stable. -/
structure Round (ops : List Op) (was s : List (List Int)) (done : List Op) : Prop where
  le : leS s was
  stab : s = was → ∀ op ∈ done, op was = was
theorem Round.step {nv : Nat} {ops done : List Op} {was s : List (List Int)} (h : Round ops was s done) {op : Op} {Q : List Int → Bool} (ho : IsOp nv op Q) (hs : s.length = nv) : Round ops was (op s) (done ++ [op]) := by
  have hle := ho.le hs
  refine ⟨hle.trans h.le, fun e op' hm => ?_⟩
  have e2 : s = was := h.le.antisymm (by rw [← e]; exact hle)
  rcases List.mem_append.1 hm with hm | hm
  · exact h.stab e2 op' hm
  · rw [List.mem_singleton.1 hm]; rw [e2] at e; exact e
end Go.Proofs.YtgnjdgafkjohaaaGreat

/- What is left when nothing changes any more: the calls, and the document's answer. -/
namespace Go.Proofs.YtgnjdgafkjohaaaGreat
open Go.RowKit
set_option linter.unusedVariables false
set_option linter.unusedSimpArgs false

/-- All that is right of what a call is handed. -/
structure FixOk (m : MdlD) (s : List (List Int)) (l : List (List LitD)) : Prop where
  chk : checkM m = 0
  st : storeE m s = 0
  len : l.length ≤ 1000000
  cl : ∀ c ∈ l, clauseE m.vars.length c = 0
  mc : RightMC m l
  good : GoodS s m.vars.length
/-! ### The document's answer -/
theorem down {α : Type} {I : Nat → Int → α → Prop} (m : Nat) (hm : m ≤ 9223372036854775807) (Inv : Nat → α → Prop) {a : α} (h0 : Inv m a)
    (hs : ∀ n (k : Nat) a, k ≤ m → Inv k a → (∀ j : Nat, k = j + 1 → ∀ a', Inv j a' → I n (w64 ((j : Int) - 1)) a') → I (n + 1) ((k : Int) - 1) a) : ∃ n, I n (w64 ((m : Int) - 1)) a := by
  suffices H : ∀ k, k ≤ m → ∀ a, Inv k a → I (k + 1) ((k : Int) - 1) a from ⟨m + 1, by rw [w64_eq (by omega) (by omega)]; exact H m (Nat.le_refl _) a h0⟩
  intro k
  induction k with
  | zero => exact fun hk a ha => hs 0 0 a hk ha fun j e => absurd e (by omega)
  | succ k ih =>
    intro hk a ha
    refine hs (k + 1) (k + 1) a hk ha fun j e a' ha' => ?_
    obtain rfl : k = j := by omega
    rw [w64_eq (by omega) (by omega)]
    exact ih (by omega) a' ha'
/-- On the way down: failed, or nothing changed so far, or less than it was. -/
structure DownR (ops : List Op) (s0 was : List (List Int)) (done : List Op) (s : List (List Int)) (ch : Bool) : Prop where
  reach : Reach ops s0 s
  st : failS s = true ∨ (ch = false ∧ s = was ∧ ∀ op ∈ done, op was = was) ∨ (ch = true ∧ sizeS s < sizeS was)
end Go.Proofs.YtgnjdgafkjohaaaGreat

/- The laws of all together. -/
namespace Go.Proofs.YtgnjdgafkjohaaaGreat
open Go.RowKit
set_option linter.unusedVariables false
set_option linter.unusedSimpArgs false

end Go.Proofs.YtgnjdgafkjohaaaGreat
