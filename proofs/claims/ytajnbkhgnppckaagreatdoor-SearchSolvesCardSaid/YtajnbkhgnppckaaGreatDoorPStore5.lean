/- The law of what meets. -/
import Derived.Test.YtajnbkhgnppckaaGreatDoorPStore4
namespace Go.Proofs.YtajnbkhgnppckaaGreatDoor
open Go.RowKit
set_option linter.unusedVariables false
set_option linter.unusedSimpArgs false
theorem zn {l : List Int} {n : Int} : hasI l n = true ↔ n ∈ l := by
 rw [hasI, List.any_eq_true]
 exact ⟨fun ⟨k, hk, e⟩ => by rw [of_decide_eq_true e]; exact hk, fun h => ⟨n, h, decide_eq_true rfl⟩⟩
theorem zp {f : Nat → Int → Bool} {s : List (List Int)} {v : Nat} : (keepS f s).getD v [] = (s.getD v []).filter (f v) := by
 rw [keepS, List.getD_eq_getElem?_getD, List.getD_eq_getElem?_getD, List.getElem?_mapIdx]
 cases s[v]? <;> rfl
theorem zw {f : Nat → Int → Bool} {s : List (List Int)} : (keepS f s).length = s.length := List.length_mapIdx
theorem z1w {a b : Int} {l : List Int} : disL (a :: b :: l) = (decide (b ≤ a) || disL (b :: l)) := rfl
theorem dis_pw : ∀ {l : List Int}, disL l = false ↔ l.Pairwise (· < ·)
 | [] => by simp [disL]
 | [a] => by simp [disL]
 | a :: b :: l => by
  rw [z1w, Bool.or_eq_false_iff, dis_pw, List.pairwise_cons (a := a) (l := b :: l)]
  constructor
  ·rintro ⟨h1, h2⟩
   have h1 := of_decide_eq_false h1
   refine ⟨fun x hx => ?_, h2⟩
   rcases List.mem_cons.1 hx with rfl | hx
   ·omega
   ·have := (List.pairwise_cons.1 h2).1 x hx; omega
  ·rintro ⟨h1, h2⟩
   exact ⟨decide_eq_false (by have := h1 b (List.mem_cons_self ..); omega), h2⟩
theorem zTh {m : MdlD} {s : List (List Int)} : storeE m s = 0 ↔ s.length = m.vars.length ∧ (∀ v, ∀ n ∈ s.getD v [], (m.vars.getD v ⟨⟨#[]⟩, 0, 0⟩).lo ≤ n ∧ n ≤ (m.vars.getD v ⟨⟨#[]⟩, 0, 0⟩).hi) ∧ ∀ l ∈ s, l.Pairwise (· < ·) := by
 constructor
 ·intro h
  have hl := zbn h
  unfold storeE at h
  rw [if_neg (not_not_intro hl)] at h
  split at h
  ·exact absurd h (by decide)
  rename_i h1
  split at h
  ·exact absurd h (by decide)
  rename_i h2
  refine ⟨hl, fun v n hn => ?_, fun l hl => dis_pw.1 ?_⟩
  ·by_cases hv : v < s.length
   ·have hz : v < (s.zip m.vars).length := by rw [List.length_zip]; omega
    rw [getD_at _ hv] at hn
    rw [getD_at _ (show v < m.vars.length by omega)]
    rw [Bool.not_eq_true, outB, List.any_eq_false] at h1
    have := h1 _ (List.getElem_mem hz)
    rw [List.getElem_zip, Bool.not_eq_true, List.any_eq_false] at this
    have := this n hn
    simp [outV] at this
    omega
   ·rw [List.getD_eq_getElem?_getD, List.getElem?_eq_none (by omega)] at hn
    simp at hn
  ·rw [Bool.not_eq_true, List.any_eq_false] at h2
   simpa using h2 l hl
 ·rintro ⟨hl, h1, h2⟩
  refine zNw (not_not_intro hl) ?_ ?_
  ·rw [outB, List.any_eq_true]
   rintro ⟨x, hx, hp⟩
   obtain ⟨i, hi, rfl⟩ := List.getElem_of_mem hx
   rw [List.length_zip] at hi
   rw [List.getElem_zip, List.any_eq_true] at hp
   obtain ⟨n, hn, e⟩ := hp
   have := h1 i n (by rw [getD_at _ (by omega)]; exact hn)
   rw [getD_at _ (show i < m.vars.length by omega)] at this
   simp [outV] at e
   omega
  ·rw [List.any_eq_true]
   rintro ⟨l, hl, e⟩
   rw [dis_pw.2 (h2 l hl)] at e
   exact absurd e (by decide)
theorem bt {b : Bool} {X Y : Prop} (h : b = true) (hx : X) : sel b X Y := by rw [h]; exact hx
theorem bnf {b : Bool} {X Y : Prop} (h : b = true) (hy : Y) : sel (!b) X Y := by rw [h]; exact hy
theorem bf {b : Bool} {X Y : Prop} (h : b = false) (hy : Y) : sel b X Y := by rw [h]; exact hy
theorem bnt {b : Bool} {X Y : Prop} (h : b = false) (hx : X) : sel (!b) X Y := by rw [h]; exact hx
end Go.Proofs.YtajnbkhgnppckaaGreatDoor
