/- The laws of stores. -/
import Derived.Test.YtajnbkhgnppckaaGreatDoorPStore3
import Derived.Test.YtajnbkhgnppckaaGreatDoorWCordonlaw
namespace Go.Proofs.YtajnbkhgnppckaaGreatDoor
open Go.RowKit
set_option linter.unusedVariables false
set_option linter.unusedSimpArgs false
def twoM : MdlD := ⟨[⟨⟨#[120]⟩, 0, 2⟩, ⟨⟨#[121]⟩, 0, 2⟩], [⟨1, [0, 1], [1, -1], -1, [], []⟩], 1, 1⟩
theorem zjd : Sat Tryz.prog zzb [] (toD .mdl twoM) :=
 zZw fun ok => by rw [zYw]; exact rfl
def isS (a : List (List Int)) (e1 e2 : Int) (b : List (List Int)) : Bool := decide (e1 = e2) && decide (a = orS e2 b)
theorem z0w {m : MdlD} {ss : List (List (List Int))} (h : readyE m ss = 0) : checkM m = 0 := by
 by_cases h1 : checkM m = 0
 ·exact h1
 ·rw [zOw h1] at h; exact absurd h h1
theorem dt {p : Prop} [Decidable p] {X Y : Prop} (h : p) (hx : X) : sel (decide p) X Y := by rw [decide_eq_true h]; exact hx
theorem df {p : Prop} [Decidable p] {X Y : Prop} (h : ¬p) (hy : Y) : sel (decide p) X Y := by rw [decide_eq_false h]; exact hy
theorem dnt {p : Prop} [Decidable p] {X Y : Prop} (h : ¬p) (hx : X) : sel (!decide p) X Y := by rw [decide_eq_false h]; exact hx
theorem dnf {p : Prop} [Decidable p] {X Y : Prop} (h : p) (hy : Y) : sel (!decide p) X Y := by rw [decide_eq_true h]; exact hy
theorem orB0 {b : Bool} {e : Int} (h : e = 0) : orB e b = b := if_pos h
theorem orB1 {b : Bool} {e : Int} (h : e ≠ 0) : orB e b = false := if_neg h
end Go.Proofs.YtajnbkhgnppckaaGreatDoor
