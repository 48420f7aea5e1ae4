/- What the document says of clauses: the same as the program does. -/
import Derived.Test.YtgnjdgafkjohaaaGreatPClause2
import Derived.Test.YtgnjdgafkjohaaaGreatPModel1
namespace Go.Proofs.YtgnjdgafkjohaaaGreat
open Go.RowKit
set_option linter.unusedVariables false
set_option linter.unusedSimpArgs false

theorem cordonref_NoValues_ok {s : List (List Int)} (hs : s.length ≤ 5000000000000) : Sat Tryz.prog f_cordonref_NoValues [dI s.length] (dS (noneS s)) :=
  cordonref_NoValues_sat _ fun ok => by
    rw [cordonref_NoValues_eq]
    refine up (I := fun n v a => cordonref_NoValues_I0 (s.length : Int) _ n v a) 0 s.length rfl (Nat.zero_le _) (by omega) (fun k a => a = List.replicate k []) rfl fun n k a _ hk ha hn => ?_
    subst ha
    rw [cordonref_NoValues_I0_eq]
    by_cases h : k < s.length
    · rw [sel_lt h]
      refine ⟨room_of (t := .list .int) ?_, hn h _ ?_⟩
      · rw [List.length_replicate]; show (_ + 1) * 24 ≤ _; omega
      · rw [List.replicate_succ']
    · have hk' : k = s.length := by omega
      subst hk'
      rw [sel_end]; rfl
end Go.Proofs.YtgnjdgafkjohaaaGreat
