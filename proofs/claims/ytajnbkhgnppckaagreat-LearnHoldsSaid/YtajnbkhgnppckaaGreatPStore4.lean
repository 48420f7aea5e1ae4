/- The laws of stores. -/
import Derived.Test.YtajnbkhgnppckaaGreatPStore3
import Derived.Test.YtajnbkhgnppckaaGreatWCordonlaw
namespace Go.Proofs.YtajnbkhgnppckaaGreat
open Go.RowKit
set_option linter.unusedVariables false
set_option linter.unusedSimpArgs false

def twoM : MdlD := ⟨[⟨⟨#[120]⟩, 0, 2⟩, ⟨⟨#[121]⟩, 0, 2⟩], [⟨1, [0, 1], [1, -1], -1, [], []⟩], 1, 1⟩
theorem cordonlaw_two_ok : Sat Tryz.prog f_cordonlaw_two [] (toD .mdl twoM) :=
  cordonlaw_two_sat fun ok => by rw [cordonlaw_two_eq]; exact rfl
def isS (a : List (List Int)) (e1 e2 : Int) (b : List (List Int)) : Bool := decide (e1 = e2) && decide (a = orS e2 b)
theorem ready_check {m : MdlD} {ss : List (List (List Int))} (h : readyE m ss = 0) : checkM m = 0 := by
  by_cases h1 : checkM m = 0
  · exact h1
  · rw [readyE_1 h1] at h; exact absurd h h1
theorem dt {p : Prop} [Decidable p] {X Y : Prop} (h : p) (hx : X) : sel (decide p) X Y := by rw [decide_eq_true h]; exact hx
theorem df {p : Prop} [Decidable p] {X Y : Prop} (h : ¬p) (hy : Y) : sel (decide p) X Y := by rw [decide_eq_false h]; exact hy
theorem dnt {p : Prop} [Decidable p] {X Y : Prop} (h : ¬p) (hx : X) : sel (!decide p) X Y := by rw [decide_eq_false h]; exact hx
theorem dnf {p : Prop} [Decidable p] {X Y : Prop} (h : p) (hy : Y) : sel (!decide p) X Y := by rw [decide_eq_true h]; exact hy
theorem orS0 {s : List (List Int)} {e : Int} (h : e = 0) : orS e s = s := if_pos h
theorem orS1 {s : List (List Int)} {e : Int} (h : e ≠ 0) : orS e s = [] := if_neg h
theorem orB0 {b : Bool} {e : Int} (h : e = 0) : orB e b = b := if_pos h
theorem orB1 {b : Bool} {e : Int} (h : e ≠ 0) : orB e b = false := if_neg h
end Go.Proofs.YtajnbkhgnppckaaGreat
