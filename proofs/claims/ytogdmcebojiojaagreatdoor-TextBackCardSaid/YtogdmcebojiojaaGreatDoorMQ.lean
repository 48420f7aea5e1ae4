/- Texts of this proof, one behind the other: nothing is handed in but what is proved here; no condition. -/
import Derived.Test.YtogdmcebojiojaaGreatDoorWStore
import Derived.Test.YtogdmcebojiojaaGreatDoorME
import Derived.Test.YtogdmcebojiojaaGreatDoorWCordonlaw
import Derived.Test.YtogdmcebojiojaaGreatDoorWLit
import Derived.Test.YtogdmcebojiojaaGreatDoorWModel
/- What the program's stores and the document's answer: both are told by the same plain functions. -/
namespace Go.Proofs.YtogdmcebojiojaaGreatDoor
open Go.RowKit
set_option linter.unusedVariables false

end Go.Proofs.YtogdmcebojiojaaGreatDoor

/- What the program's and the document's calls of stores answer. -/
namespace Go.Proofs.YtogdmcebojiojaaGreatDoor
open Go.RowKit
set_option linter.unusedVariables false
set_option linter.unusedSimpArgs false

/-! ### A model that is right -/
theorem firstE_idx {α : Type} {f : Nat → α → Int} {xs : List α} (h : firstE f 0 xs = 0) {j : Nat} (hj : j < xs.length) : f j xs[j] = 0 := by
  have := firstE_zero xs 0 h j hj
  rwa [Nat.zero_add] at this
structure Right (m : MdlD) : Prop where
  vars : m.vars.length ≤ 6
  some : m.vars.length ≠ 0
  cons : m.cons.length ≤ 8
  var : ∀ v ∈ m.vars, -50 ≤ v.lo ∧ v.hi ≤ 50 ∧ v.lo ≤ v.hi ∧ v.hi - v.lo < 6
  con : ∀ c ∈ m.cons, conE m.vars.length c = 0
  goal : goalE m = 0
theorem right_of {m : MdlD} (h : checkM m = 0) : Right m := by
  unfold checkM at h
  split at h
  · exact absurd h (by decide)
  rename_i h1
  split at h
  · exact absurd h (by decide)
  rename_i h2
  split at h
  · rename_i h3; exact absurd h h3
  rename_i h3
  split at h
  · rename_i h4; exact absurd h h4
  rename_i h4
  have h3 := Decidable.not_not.1 h3
  have h4 := Decidable.not_not.1 h4
  refine ⟨by omega, h1, by omega, fun v hv => ?_, fun c hc => ?_, h⟩
  · obtain ⟨i, hi, rfl⟩ := List.getElem_of_mem hv
    have e := firstE_idx h3 hi
    unfold varE at e
    split at e
    · exact absurd e (by decide)
    split at e
    · exact absurd e (by decide)
    split at e
    · exact absurd e (by decide)
    split at e
    · exact absurd e (by decide)
    rename_i h5 h6
    simp [inR] at h5
    omega
  · obtain ⟨i, hi, rfl⟩ := List.getElem_of_mem hc
    exact firstE_idx h4 hi

end Go.Proofs.YtogdmcebojiojaaGreatDoor

/- What the program's calls of stores answer, and what the document says of them. -/
namespace Go.Proofs.YtogdmcebojiojaaGreatDoor
open Go.RowKit
set_option linter.unusedVariables false
set_option linter.unusedSimpArgs false

/-- What comes with an error. -/
def orS (e : Int) (s : List (List Int)) : List (List Int) := if e = 0 then s else []
theorem getD_at {α : Type} {t : List α} {k : Nat} (d : α) (h : k < t.length) : t.getD k d = t[k] := by rw [List.getD_eq_getElem?_getD, List.getElem?_eq_getElem h]; rfl
theorem zip_same {α : Type} [DecidableEq α] : ∀ (a b : List α), a.length = b.length → ((a.zip b).any fun x => !decide (x.1 = x.2)) = !decide (a = b)
  | [], [], _ => rfl
  | [], _ :: _, h => by simp at h
  | _ :: _, [], h => by simp at h
  | x :: a, y :: b, h => by
    rw [List.zip_cons_cons, List.any_cons, zip_same a b (by simpa using h)]
    by_cases h1 : x = y <;> by_cases h2 : a = b <;> simp [h1, h2]
theorem cordonref_SameInts_ok (a b : List Int) : Sat Tryz.prog f_cordonref_SameInts [.sl .int a, .sl .int b] (dB (decide (a = b))) :=
  cordonref_SameInts_sat a b fun ok => by
    have hl : a.length ≤ 9223372036854775807 := okLen (t := .int) (ok1 ok)
    rw [cordonref_SameInts_eq]
    refine sel_intro (fun e => ?_) fun e => ?_
    · rw [decide_eq_false (p := a = b) fun h => by subst h; simp at e]
    have e : a.length = b.length := by simp at e; omega
    have hz : (a.zip b).length = a.length := by rw [List.length_zip]; omega
    refine any0 (I := fun n v => cordonref_SameInts_I0 a b _ n v) (a.zip b) (fun x => !decide (x.1 = x.2)) (by omega) (X := dB false = dB (decide (a = b))) (Y := dB true = dB (decide (a = b))) (by rw [zip_same a b e]; cases decide (a = b) <;> rfl) (fun n k h hX hn => ?_) fun n hY => ?_
    · have hk : k < a.length := by omega
      rw [List.getElem_zip] at hX hn
      rw [cordonref_SameInts_I0_eq, sel_lt hk, at_nat (t := .int) hk, at_nat (t := .int) (show k < b.length by omega)]
      exact ⟨inb_nat hk, inb_nat (by omega), sel_intro hX hn⟩
    · rw [hz, cordonref_SameInts_I0_eq, sel_end]; exact hY
end Go.Proofs.YtogdmcebojiojaaGreatDoor

/- The laws of stores. -/
namespace Go.Proofs.YtogdmcebojiojaaGreatDoor
open Go.RowKit
set_option linter.unusedVariables false
set_option linter.unusedSimpArgs false

def isS (a : List (List Int)) (e1 e2 : Int) (b : List (List Int)) : Bool := decide (e1 = e2) && decide (a = orS e2 b)
theorem dt {p : Prop} [Decidable p] {X Y : Prop} (h : p) (hx : X) : sel (decide p) X Y := by rw [decide_eq_true h]; exact hx
theorem df {p : Prop} [Decidable p] {X Y : Prop} (h : ¬p) (hy : Y) : sel (decide p) X Y := by rw [decide_eq_false h]; exact hy
theorem dnt {p : Prop} [Decidable p] {X Y : Prop} (h : ¬p) (hx : X) : sel (!decide p) X Y := by rw [decide_eq_false h]; exact hx
theorem dnf {p : Prop} [Decidable p] {X Y : Prop} (h : p) (hy : Y) : sel (!decide p) X Y := by rw [decide_eq_true h]; exact hy
end Go.Proofs.YtogdmcebojiojaaGreatDoor

/- The law of what meets. -/
namespace Go.Proofs.YtogdmcebojiojaaGreatDoor
open Go.RowKit
set_option linter.unusedVariables false
set_option linter.unusedSimpArgs false

theorem bt {b : Bool} {X Y : Prop} (h : b = true) (hx : X) : sel b X Y := by rw [h]; exact hx
theorem bnf {b : Bool} {X Y : Prop} (h : b = true) (hy : Y) : sel (!b) X Y := by rw [h]; exact hy
theorem bf {b : Bool} {X Y : Prop} (h : b = false) (hy : Y) : sel b X Y := by rw [h]; exact hy
theorem bnt {b : Bool} {X Y : Prop} (h : b = false) (hx : X) : sel (!b) X Y := by rw [h]; exact hx
end Go.Proofs.YtogdmcebojiojaaGreatDoor

/- What the program's and the document's calls of literals answer. -/
namespace Go.Proofs.YtogdmcebojiojaaGreatDoor
open Go.RowKit
set_option linter.unusedVariables false
set_option linter.unusedSimpArgs false

end Go.Proofs.YtogdmcebojiojaaGreatDoor

/- What the program's and the document's calls of literals answer, of stores. -/
namespace Go.Proofs.YtogdmcebojiojaaGreatDoor
open Go.RowKit
set_option linter.unusedVariables false
set_option linter.unusedSimpArgs false

end Go.Proofs.YtogdmcebojiojaaGreatDoor

/- What it means that a constraint holds of values, and that the program tells it. -/
namespace Go.Proofs.YtogdmcebojiojaaGreatDoor
open Go.RowKit
set_option linter.unusedVariables false
set_option linter.unusedSimpArgs false

/-! ### In plain words -/
/-- A constraint that is right, of so many values, none of them far. -/
structure RightC (c : ConD) (nv : Nat) : Prop where
  nv6 : nv ≤ 6
  kind : 1 ≤ c.kind ∧ c.kind ≤ 10
  many : c.vars.length ≤ 4 ∧ c.lits.length ≤ 4 ∧ c.consts.length ≤ 8 ∧ c.rows.length ≤ 20
  form : formB c = true
  vars : ∀ v ∈ c.vars, 0 ≤ v ∧ v < nv
  consts : ∀ n ∈ c.consts, -1000 ≤ n ∧ n ≤ 1000
  n : -1000 ≤ c.n ∧ c.n ≤ 1000
  rows : ∀ r ∈ c.rows, ∀ n ∈ r, -1000 ≤ n ∧ n ≤ 1000
  lits : ∀ l ∈ c.lits, litE nv l = 0
theorem rightC_of {nv : Nat} {c : ConD} (hnv : nv ≤ 6) (h : conE nv c = 0) : RightC c nv := by
  by_cases h1 : inR c.kind 1 10 = false
  · rw [conE_1 h1] at h; exact absurd h (by decide)
  by_cases h2 : manyB c = true
  · rw [conE_2 h1 h2] at h; exact absurd h (by decide)
  by_cases h3 : formB c = false
  · rw [conE_3 h1 h2 h3] at h; exact absurd h (by decide)
  by_cases h4 : (c.vars.any (noneB nv) || c.lits.any fun l => noneB nv l.var) = true
  · rw [conE_4 h1 h2 h3 h4] at h; exact absurd h (by decide)
  by_cases h5 : (c.consts.any farB || farB c.n || c.rows.any fun r => r.any farB) = true
  · rw [conE_5 h1 h2 h3 h4 h5] at h; exact absurd h (by decide)
  rw [conE_6 h1 h2 h3 h4 h5] at h
  rw [Bool.not_eq_true, Bool.or_eq_false_iff] at h4
  rw [Bool.not_eq_true, Bool.or_eq_false_iff, Bool.or_eq_false_iff] at h5
  have hfar : ∀ n, farB n = false → -1000 ≤ n ∧ n ≤ 1000 := fun n h => by simp [farB, inR] at h; exact h
  have hnone : ∀ v, noneB nv v = false → 0 ≤ v ∧ v < nv := fun v h => by simp [noneB, inR] at h; omega
  refine ⟨hnv, ?_, ?_, by simpa using h3, fun v hv => hnone v ?_, fun n hn => hfar n ?_, hfar _ h5.1.2, fun r hr n hn => hfar n ?_, fun l hl => ?_⟩
  · rw [inR_false] at h1; omega
  · simp [manyB] at h2; omega
  · have := List.any_eq_false.1 h4.1 v hv; simpa using this
  · have := List.any_eq_false.1 h5.1.1 n hn; simpa using this
  · have := List.any_eq_false.1 h5.2 r hr
    rw [Bool.not_eq_true] at this
    have := List.any_eq_false.1 this n hn; simpa using this
  · obtain ⟨i, hi, rfl⟩ := List.getElem_of_mem hl
    have e := firstE_idx h hi
    rw [litE_op]
    · exact e
    · have := List.any_eq_false.1 h4.2 _ (List.getElem_mem hi); simpa using this
structure FormC (c : ConD) : Prop where
  sums : c.kind ≤ 3 → 1 ≤ c.vars.length ∧ c.consts.length = c.vars.length
  differ : c.kind = 4 → 1 ≤ c.vars.length
  element : c.kind = 5 → c.vars.length = 2 ∧ 1 ≤ c.consts.length
  table : c.kind = 6 → 1 ≤ c.vars.length ∧ ∀ r ∈ c.rows, r.length = c.vars.length
  times : c.kind = 7 → c.vars.length = 3
  max : c.kind = 8 → 2 ≤ c.vars.length
  clause : c.kind = 9 → c.vars.length = 0
  iff : c.kind = 10 → c.vars.length = 1 ∧ c.lits.length = 1
structure GoodV (vs : List Int) (nv : Nat) : Prop where
  len : vs.length = nv
  near : ∀ n ∈ vs, -50 ≤ n ∧ n ≤ 50
theorem GoodV.at {vs : List Int} {nv : Nat} (h : GoodV vs nv) (i : Nat) : -50 ≤ vs.getD i 0 ∧ vs.getD i 0 ≤ 50 := by
  by_cases hi : i < vs.length
  · rw [getD_at _ hi]; exact h.near _ (List.getElem_mem hi)
  · rw [List.getD_eq_getElem?_getD, List.getElem?_eq_none (by omega)]; decide
end Go.Proofs.YtogdmcebojiojaaGreatDoor
