/- What the program's calls of clauses answer. -/
import Derived.Test.YtonkbljpcgadlaaGreatPLit4
import Derived.Test.YtonkbljpcgadlaaGreatWClause
namespace Go.Proofs.YtonkbljpcgadlaaGreat
open Go.RowKit
set_option linter.unusedVariables false
set_option linter.unusedSimpArgs false

theorem clone_ints (l : List Int) : SatH Tryz.prog f_slices_Clone_l_int_int [.sl .int l] [] (.own 3000) [(3000, .row 3 .int l)] :=
  slices_Clone_l_int_int_sat l fun ok _ => by
    rw [slices_Clone_l_int_int_eq]
    intro b hb
    refine sel_intro (fun e => ?_) fun e => ⟨?_, ?_⟩
    · rw [hb e]; exact ⟨rfl, rfl⟩
    · refine room_of (t := .int) ?_
      have := (ok_list (t := .int) (ok1 ok)).1
      show (0 + l.length) * 8 ≤ _
      have h8 : l.length * 8 ≤ 140737488355328 := this
      omega
    · exact ⟨rfl, rfl⟩
end Go.Proofs.YtonkbljpcgadlaaGreat
