/- What the program's calls of clauses answer. -/
import Derived.Test.YtgnjdgafkjohaaaGreatPLit4
import Derived.Test.YtgnjdgafkjohaaaGreatWClause
namespace Go.Proofs.YtgnjdgafkjohaaaGreat
open Go.RowKit
set_option linter.unusedVariables false
set_option linter.unusedSimpArgs false

theorem clone_ints (l : List Int) : SatH Tryz.prog f_slices_Clone_l_int_int [.sl .int l] [] (.own 3000) [(3000, .row 3 .int l)] :=
  slices_Clone_l_int_int_sat l fun ok _ => by
    rw [slices_Clone_l_int_int_eq]
    intro b hb
    refine sel_intro (fun e => ?_) fun e => ⟨?_, ?_⟩
    · rw [hb e]; exact ⟨rfl, rfl⟩
    · refine room_of (t := .int) ?_
      have := (ok_list (t := .int) (ok1 ok)).1
      show (0 + l.length) * 8 ≤ _
      have h8 : l.length * 8 ≤ 140737488355328 := this
      omega
    · exact ⟨rfl, rfl⟩
theorem store_Own_ok (s : List (List Int)) : Sat Tryz.prog f_store_Own [dS s] (dS s) :=
  store_Own_sat s fun ok => by
    have hs : okStore s := ok_list (ok1 ok)
    have hsl := store_len hs
    rw [store_Own_eq]
    refine up (I := fun n v a => store_Own_I0 s _ n v a) 0 s.length rfl (Nat.zero_le _) (by omega) (fun k a => a = s.take k) rfl fun n k a _ hk ha hn => ?_
    subst ha
    rw [store_Own_I0_eq]
    by_cases h : k < s.length
    · rw [sel_lt h, at_nat (t := .list .int) h]
      refine ⟨inb_nat h, _, clone_ints _, room_of (t := .list .int) ?_, hn h _ (List.take_append_getElem h)⟩
      rw [List.length_take]
      show (_ + 1) * 24 ≤ _
      omega
    · have hk' : k = s.length := by omega
      subst hk'
      rw [sel_end, List.take_length]
def noneS (s : List (List Int)) : List (List Int) := List.replicate s.length []
theorem store_Nothing_ok (s : List (List Int)) : Sat Tryz.prog f_store_Nothing [dS s] (dS (noneS s)) :=
  store_Nothing_sat s fun ok => by
    have hs : okStore s := ok_list (ok1 ok)
    have hsl := store_len hs
    rw [store_Nothing_eq]
    refine ⟨rfl, by omega, room_of (t := .list .int) ?_, rfl⟩
    rw [Int.toNat_natCast]
    show _ * 24 ≤ _
    omega
end Go.Proofs.YtgnjdgafkjohaaaGreat
