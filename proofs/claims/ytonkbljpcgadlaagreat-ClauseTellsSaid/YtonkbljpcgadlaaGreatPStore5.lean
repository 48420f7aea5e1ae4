/- The law of what meets. -/
import Derived.Test.YtonkbljpcgadlaaGreatPStore4
namespace Go.Proofs.YtonkbljpcgadlaaGreat
open Go.RowKit
set_option linter.unusedVariables false
set_option linter.unusedSimpArgs false

theorem hasI_iff {l : List Int} {n : Int} : hasI l n = true ↔ n ∈ l := by
  rw [hasI, List.any_eq_true]
  exact ⟨fun ⟨k, hk, e⟩ => by rw [of_decide_eq_true e]; exact hk, fun h => ⟨n, h, decide_eq_true rfl⟩⟩
theorem keepS_length {f : Nat → Int → Bool} {s : List (List Int)} : (keepS f s).length = s.length := List.length_mapIdx
theorem bt {b : Bool} {X Y : Prop} (h : b = true) (hx : X) : sel b X Y := by rw [h]; exact hx
end Go.Proofs.YtonkbljpcgadlaaGreat
