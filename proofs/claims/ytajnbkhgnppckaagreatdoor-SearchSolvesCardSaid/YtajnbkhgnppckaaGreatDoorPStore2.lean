/- What the program's and the document's calls of stores answer. -/
import Derived.Test.YtajnbkhgnppckaaGreatDoorPStore1
namespace Go.Proofs.YtajnbkhgnppckaaGreatDoor
open Go.RowKit
set_option linter.unusedVariables false
set_option linter.unusedSimpArgs false
theorem zEc {α : Type} {f : Nat → α → Int} {xs : List α} (h : firstE f 0 xs = 0) {j : Nat} (hj : j < xs.length) : f j xs[j] = 0 := by
 have := zpl xs 0 h j hj
 rwa [Nat.zero_add] at this
structure Right (m : MdlD) : Prop where
 vars : m.vars.length ≤ 6
 some : m.vars.length ≠ 0
 cons : m.cons.length ≤ 8
 var : ∀ v ∈ m.vars, -50 ≤ v.lo ∧ v.hi ≤ 50 ∧ v.lo ≤ v.hi ∧ v.hi - v.lo < 6
 con : ∀ c ∈ m.cons, conE m.vars.length c = 0
 goal : goalE m = 0
theorem zY {m : MdlD} (h : checkM m = 0) : Right m := by
 unfold checkM at h
 split at h
 ·exact absurd h (by decide)
 rename_i h1
 split at h
 ·exact absurd h (by decide)
 rename_i h2
 split at h
 ·rename_i h3; exact absurd h h3
 rename_i h3
 split at h
 ·rename_i h4; exact absurd h h4
 rename_i h4
 have h3 := Decidable.not_not.1 h3
 have h4 := Decidable.not_not.1 h4
 refine ⟨by omega, h1, by omega, fun v hv => ?_, fun c hc => ?_, h⟩
 ·obtain ⟨i, hi, rfl⟩ := List.getElem_of_mem hv
  have e := zEc h3 hi
  unfold varE at e
  split at e
  ·exact absurd e (by decide)
  split at e
  ·exact absurd e (by decide)
  split at e
  ·exact absurd e (by decide)
  split at e
  ·exact absurd e (by decide)
  rename_i h5 h6
  simp [inR] at h5
  omega
 ·obtain ⟨i, hi, rfl⟩ := List.getElem_of_mem hc
  exact zEc h4 hi
theorem zNw {m : MdlD} {s : List (List Int)} (h1 : ¬s.length ≠ m.vars.length) (h2 : ¬outB m s = true) (h : ¬s.any disL = true) : storeE m s = 0 := by rw [storeE, if_neg h1, if_neg h2, if_neg h]
theorem zbn {m : MdlD} {s : List (List Int)} (h : storeE m s = 0) : s.length = m.vars.length := by
 unfold storeE at h
 split at h
 ·exact absurd h (by decide)
 ·omega
end Go.Proofs.YtajnbkhgnppckaaGreatDoor
