/- The laws of stores. -/
import Derived.Test.YtgnjdgafkjohaaaGreatPStore3
import Derived.Test.YtgnjdgafkjohaaaGreatWCordonlaw
namespace Go.Proofs.YtgnjdgafkjohaaaGreat
open Go.RowKit
set_option linter.unusedVariables false
set_option linter.unusedSimpArgs false

def twoM : MdlD := ⟨[⟨⟨#[120]⟩, 0, 2⟩, ⟨⟨#[121]⟩, 0, 2⟩], [⟨1, [0, 1], [1, -1], -1, [], []⟩], 1, 1⟩
theorem cordonlaw_two_ok : Sat Tryz.prog f_cordonlaw_two [] (toD .mdl twoM) :=
  cordonlaw_two_sat fun ok => by rw [cordonlaw_two_eq]; exact rfl
def isS (a : List (List Int)) (e1 e2 : Int) (b : List (List Int)) : Bool := decide (e1 = e2) && decide (a = orS e2 b)
theorem two_begin : Sat Tryz.prog f_store_Begin [dM twoM] (.tup [dS [[0, 1, 2], [0, 1, 2]], dI 0]) := by
  have h := store_Begin_ok twoM
  rwa [show checkM twoM = 0 by kernel_rfl, show orS 0 (fullS twoM) = [[0, 1, 2], [0, 1, 2]] by kernel_rfl] at h
theorem two_meet : Sat Tryz.prog f_store_Meet [dM twoM, dS [[0, 1, 2], [0, 1, 2]], dS [[1], [0, 2]]] (.tup [dS [[1], [0, 2]], dI 0]) := by
  have h := store_Meet_ok twoM [[0, 1, 2], [0, 1, 2]] [[1], [0, 2]]
  rwa [show readyE twoM [[[0, 1, 2], [0, 1, 2]], [[1], [0, 2]]] = 0 by kernel_rfl, show orS 0 (meetS [[0, 1, 2], [0, 1, 2]] [[1], [0, 2]]) = [[1], [0, 2]] by kernel_rfl] at h
theorem two_within : Sat Tryz.prog f_store_Within [dM twoM, dS [[1], [0, 2]], dS [[0, 1, 2], [0, 1, 2]]] (.tup [dB true, dI 0]) := by
  have h := store_Within_ok twoM [[1], [0, 2]] [[0, 1, 2], [0, 1, 2]]
  rwa [show readyE twoM [[[1], [0, 2]], [[0, 1, 2], [0, 1, 2]]] = 0 by kernel_rfl, show orB 0 (withinS [[1], [0, 2]] [[0, 1, 2], [0, 1, 2]]) = true by kernel_rfl] at h
theorem two_failed : Sat Tryz.prog f_store_Failed [dM twoM, dS [[0, 1, 2], [0, 1, 2]]] (.tup [dB false, dI 0]) := by
  have h := store_Failed_ok twoM [[0, 1, 2], [0, 1, 2]]
  rwa [show readyE twoM [[[0, 1, 2], [0, 1, 2]]] = 0 by kernel_rfl, show orB 0 (failS [[0, 1, 2], [0, 1, 2]]) = false by kernel_rfl] at h
theorem two_check : Sat Tryz.prog f_store_Check [dM twoM, dS [[1], [0, 2]]] (dI 0) := by
  have h := store_Check_ok twoM [[1], [0, 2]]
  rwa [show readyE twoM [[[1], [0, 2]]] = 0 by kernel_rfl] at h
theorem cordonlaw_storeBegun_ok : Sat Tryz.prog f_cordonlaw_storeBegun [] (dB true) :=
  cordonlaw_storeBegun_sat fun ok => by
    rw [cordonlaw_storeBegun_eq]
    refine call1 cordonlaw_two_ok (call2 (t := .list (.list .int)) (u := .int) two_begin (call1 cordonlaw_two_ok (call2 (t := .list (.list .int)) (u := .int) two_meet (call1 cordonlaw_two_ok (call2 (t := .bool) (u := .int) two_within (call1 cordonlaw_two_ok (call2 (t := .bool) (u := .int) two_failed ?_)))))))
    refine call1 (cordonref_SameStore_ok _ _) (call1 (cordonref_SameStore_ok _ _) (call1 cordonlaw_two_ok (call1 two_check rfl)))
theorem ready_check {m : MdlD} {ss : List (List (List Int))} (h : readyE m ss = 0) : checkM m = 0 := by
  by_cases h1 : checkM m = 0
  · exact h1
  · rw [readyE_1 h1] at h; exact absurd h h1
theorem dt {p : Prop} [Decidable p] {X Y : Prop} (h : p) (hx : X) : sel (decide p) X Y := by rw [decide_eq_true h]; exact hx
theorem df {p : Prop} [Decidable p] {X Y : Prop} (h : ¬p) (hy : Y) : sel (decide p) X Y := by rw [decide_eq_false h]; exact hy
theorem dnt {p : Prop} [Decidable p] {X Y : Prop} (h : ¬p) (hx : X) : sel (!decide p) X Y := by rw [decide_eq_false h]; exact hx
theorem dnf {p : Prop} [Decidable p] {X Y : Prop} (h : p) (hy : Y) : sel (!decide p) X Y := by rw [decide_eq_true h]; exact hy
theorem orS0 {s : List (List Int)} {e : Int} (h : e = 0) : orS e s = s := if_pos h
theorem orS1 {s : List (List Int)} {e : Int} (h : e ≠ 0) : orS e s = [] := if_neg h
theorem orB0 {b : Bool} {e : Int} (h : e = 0) : orB e b = b := if_pos h
end Go.Proofs.YtgnjdgafkjohaaaGreat
