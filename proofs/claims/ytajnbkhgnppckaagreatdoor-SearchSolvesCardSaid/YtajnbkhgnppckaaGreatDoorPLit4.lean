/- The law that a literal and its opposite part the values. -/
import Derived.Test.YtajnbkhgnppckaaGreatDoorPLit3
namespace Go.Proofs.YtajnbkhgnppckaaGreatDoor
open Go.RowKit
set_option linter.unusedVariables false
set_option linter.unusedSimpArgs false
theorem opp_var {l : LitD} : (oppL l).var = l.var := by
 unfold oppL; split
 ·rfl
 split
 ·rfl
 split <;> rfl
theorem zon {l : LitD} (h : 1 ≤ l.op ∧ l.op ≤ 4) (n : Int) : holdsL (oppL l) n = !holdsL l n := by
 have h3 : l.op = 1 ∨ l.op = 2 ∨ l.op = 3 ∨ l.op = 4 := by omega
 rcases h3 with h | h | h | h <;> simp [oppL, holdsL, h] <;> first | rfl | (rw [← decide_not]; exact decide_eq_decide.2 (by omega)) | (exact decide_eq_decide.2 (by omega)) | omega
theorem zpn {α : Type} {p : α → Bool} : ∀ {r : List α}, (r.filter p).length + (r.filter fun x => !p x).length = r.length
 | [] => rfl
 | a :: r => by
  have := zpn (p := p) (r := r)
  rw [List.filter_cons, List.filter_cons]
  cases p a <;> simp <;> omega
end Go.Proofs.YtajnbkhgnppckaaGreatDoor
