/- The law of what clauses keep. -/
import Derived.Test.YtajnbkhgnppckaaGreatPClause1
namespace Go.Proofs.YtajnbkhgnppckaaGreat
open Go.RowKit
set_option linter.unusedVariables false
set_option linter.unusedSimpArgs false

/-! ### A clause holds, or it does not -/
theorem two_cholds : Sat Tryz.prog f_clause_Holds [dM twoM, .sl .lit [⟨0, 3, 2⟩, ⟨1, 2, 1⟩], .sl .int [0, 1]] (.tup [dB true, dI 0]) := by
  have h := clause_Holds_ok twoM [⟨0, 3, 2⟩, ⟨1, 2, 1⟩] [0, 1]
  rwa [show holdE twoM [⟨0, 3, 2⟩, ⟨1, 2, 1⟩] [0, 1] = 0 by kernel_rfl, show orB 0 (holdsC [⟨0, 3, 2⟩, ⟨1, 2, 1⟩] [0, 1]) = true by kernel_rfl] at h
theorem two_unit : Sat Tryz.prog f_clause_Unit [dM twoM, dS [[0, 1], [0, 1, 2]], .sl .lit [⟨0, 3, 2⟩, ⟨1, 2, 1⟩]] (.tup [dS [[0, 1], [1, 2]], dI 0]) := by
  have h := clause_Unit_ok twoM [[0, 1], [0, 1, 2]] [⟨0, 3, 2⟩, ⟨1, 2, 1⟩]
  rwa [show rdyC twoM [[0, 1], [0, 1, 2]] [⟨0, 3, 2⟩, ⟨1, 2, 1⟩] = 0 by kernel_rfl, show orS 0 (unitC [[0, 1], [0, 1, 2]] [⟨0, 3, 2⟩, ⟨1, 2, 1⟩]) = [[0, 1], [1, 2]] by kernel_rfl] at h
theorem two_deny : Sat Tryz.prog f_clause_Deny [dM twoM, dS [[0, 1], [0, 1, 2]], .sl .lit [⟨0, 3, 2⟩, ⟨1, 2, 1⟩]] (.tup [dS [[0, 1], [0]], dI 0]) := by
  have h := clause_Deny_ok twoM [[0, 1], [0, 1, 2]] [⟨0, 3, 2⟩, ⟨1, 2, 1⟩]
  rwa [show rdyC twoM [[0, 1], [0, 1, 2]] [⟨0, 3, 2⟩, ⟨1, 2, 1⟩] = 0 by kernel_rfl, show orS 0 (denyC [[0, 1], [0, 1, 2]] [⟨0, 3, 2⟩, ⟨1, 2, 1⟩]) = [[0, 1], [0]] by kernel_rfl] at h
theorem two_ccheck : Sat Tryz.prog f_clause_Check [dM twoM, .sl .lit [⟨0, 3, 2⟩, ⟨1, 2, 1⟩]] (dI 0) := by
  have h := clause_Check_ok twoM [⟨0, 3, 2⟩, ⟨1, 2, 1⟩]
  rwa [show chkC twoM [⟨0, 3, 2⟩, ⟨1, 2, 1⟩] = 0 by kernel_rfl] at h
theorem cordonlaw_clauseBegun_ok : Sat Tryz.prog f_cordonlaw_clauseBegun [] (dB true) :=
  cordonlaw_clauseBegun_sat fun ok => by
    rw [cordonlaw_clauseBegun_eq]
    exact call1 cordonlaw_two_ok (call2 (t := .bool) (u := .int) two_cholds (call1 cordonlaw_two_ok (call2 (t := .list (.list .int)) (u := .int) two_unit (call1 cordonlaw_two_ok (call2 (t := .list (.list .int)) (u := .int) two_deny (call1 cordonlaw_two_ok (call1 two_ccheck (call1 (cordonref_SameStore_ok _ _) (call1 (cordonref_SameStore_ok _ _) rfl)))))))))
end Go.Proofs.YtajnbkhgnppckaaGreat
