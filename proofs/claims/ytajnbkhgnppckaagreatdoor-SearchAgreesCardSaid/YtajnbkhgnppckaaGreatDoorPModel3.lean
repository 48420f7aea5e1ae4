/- What the program's calls of models answer: scopes, and what holds. -/
import Derived.Test.YtajnbkhgnppckaaGreatDoorPModel2
import Derived.Test.YtajnbkhgnppckaaGreatDoorPClause1
import Derived.Test.YtajnbkhgnppckaaGreatDoorPSort
namespace Go.Proofs.YtajnbkhgnppckaaGreatDoor
open Go.RowKit
set_option linter.unusedVariables false
set_option linter.unusedSimpArgs false
theorem zvk : ∀ {a b : List Int}, a.Pairwise (· < ·) → b.Pairwise (· < ·) → (∀ x, x ∈ a ↔ x ∈ b) → a = b
 | [], [], _, _, _ => rfl
 | [], y :: b, _, _, h => absurd ((h y).2 (List.mem_cons_self ..)) (by simp)
 | x :: a, [], _, _, h => absurd ((h x).1 (List.mem_cons_self ..)) (by simp)
 | x :: a, y :: b, ha, hb, h => by
  obtain ⟨ha1, ha2⟩ := List.pairwise_cons.1 ha
  obtain ⟨hb1, hb2⟩ := List.pairwise_cons.1 hb
  have e : x = y := by
   have h1 := (h x).1 (List.mem_cons_self ..)
   have h2 := (h y).2 (List.mem_cons_self ..)
   rcases List.mem_cons.1 h1 with h1 | h1
   ·exact h1
   rcases List.mem_cons.1 h2 with h2 | h2
   ·exact h2.symm
   have := hb1 x h1; have := ha1 y h2; omega
  subst e
  rw [zvk ha2 hb2 fun z => ⟨fun hz => ?_, fun hz => ?_⟩]
  ·rcases List.mem_cons.1 ((h z).1 (List.mem_cons_of_mem _ hz)) with rfl | hz'
   ·have := ha1 z hz; omega
   ·exact hz'
  ·rcases List.mem_cons.1 ((h z).2 (List.mem_cons_of_mem _ hz)) with rfl | hz'
   ·have := hb1 z hz; omega
   ·exact hz'
theorem zmh {l : List Int} {x : Int} : x ∈ Lib.compact l ↔ x ∈ l := by
 refine ⟨zuk, fun h => ?_⟩
 obtain ⟨i, hi, rfl⟩ := List.getElem_of_mem h
 suffices H : ∀ i, i < l.length → l.toArray[i]! ∈ Lib.compact l by
  have := H i hi
  rwa [getElem!_pos l.toArray i (by simpa using hi), List.getElem_toArray] at this
 intro i
 induction i with
 | zero => exact fun hi => List.mem_map.2 ⟨0, List.mem_filter.2 ⟨List.mem_range.2 hi, by simp [Lib.keeps]⟩, rfl⟩
 | succ i ih =>
  intro hi
  by_cases hk : Lib.keeps l.toArray (i + 1) = true
  ·exact List.mem_map.2 ⟨i + 1, List.mem_filter.2 ⟨List.mem_range.2 hi, hk⟩, rfl⟩
  ·have e : l.toArray[i + 1]! = l.toArray[i]! := by
    unfold Lib.keeps at hk
    rw [decide_eq_true_iff, not_or] at hk
    exact Decidable.not_not.1 hk.2
   rw [e]; exact ih (by omega)
theorem zwk {l : List Int} (h : l.Pairwise (· ≤ ·)) : (Lib.compact l).Pairwise (· < ·) := by
 unfold Lib.compact Lib.compactUpTo
 rw [List.pairwise_map]
 have hr : ((List.range l.length).filter (Lib.keeps l.toArray)).Pairwise (· < ·) := (List.pairwise_lt_range).filter _
 refine hr.imp_of_mem fun {i j} hi hj hij => ?_
 have hj1 := List.mem_range.1 (List.mem_filter.1 hj).1
 have hj2 := (List.mem_filter.1 hj).2
 unfold Lib.keeps at hj2
 have hj3 := (of_decide_eq_true hj2).resolve_left (by omega)
 have le : ∀ p q, p ≤ q → q < l.length → l.toArray[p]! ≤ l.toArray[q]! := fun p q hpq hq => by
  rw [getElem!_pos l.toArray p (by simp; omega), getElem!_pos l.toArray q (by simpa using hq)]
  by_cases hpe : p = q
  ·subst hpe; exact Int.le_refl _
  ·have := List.pairwise_iff_getElem.1 h p q (by omega) hq (by omega)
   simpa using this
 have h1 := le i (j - 1) (by omega) (by omega)
 have h2 := le (j - 1) j (by omega) hj1
 omega
theorem sort_le (l : List Int) : (sortI l).Pairwise (· ≤ ·) := by
 have := List.pairwise_mergeSort (le := fun x y : Int => decide (x ≤ y)) (fun a b c h1 h2 => by simp at *; omega) (fun a b => by simp; omega) l
 exact this.imp fun h => of_decide_eq_true h
theorem upL_mem {lo : Int} {x : Int} : ∀ {n : Nat}, x ∈ upL lo n ↔ lo ≤ x ∧ x < lo + n
 | 0 => by simp [upL]
 | n + 1 => by rw [upL, List.mem_append, upL_mem (n := n), List.mem_singleton]; omega
theorem znh {lo : Int} : ∀ {n : Nat}, (upL lo n).Pairwise (· < ·)
 | 0 => .nil
 | n + 1 => by
  rw [upL, List.pairwise_append]
  refine ⟨znh, List.pairwise_singleton _ _, fun a ha b hb => ?_⟩
  rw [List.mem_singleton] at hb
  have := (upL_mem.1 ha).2
  omega
def inC (c : ConD) (v : Int) : Bool := (c.vars.any fun x => decide (x = v)) || c.lits.any fun l => decide (l.var = v)
def scopeC (c : ConD) (nv : Nat) : List Int := (upL 0 nv).filter (inC c)
theorem zWs {c : ConD} {nv : Nat} (hc : RightC c nv) : Lib.compact (sortI (c.vars ++ c.lits.map fun l => l.var)) = scopeC c nv := by
 refine zvk (zwk (sort_le _)) (znh.filter _) fun x => ?_
 rw [zmh, (List.mergeSort_perm _ _).mem_iff, scopeC, List.mem_filter, upL_mem, inC, Bool.or_eq_true, List.any_eq_true, List.any_eq_true, List.mem_append, List.mem_map]
 constructor
 ·rintro (h | ⟨l, hl, rfl⟩)
  ·exact ⟨by have := hc.vars x h; omega, .inl ⟨x, h, decide_eq_true rfl⟩⟩
  ·exact ⟨by have := (zL.1 (hc.lits l hl)).1; omega, .inr ⟨l, hl, decide_eq_true rfl⟩⟩
 ·rintro ⟨_, ⟨y, hy, e⟩ | ⟨l, hl, e⟩⟩
  ·rw [← of_decide_eq_true e]; exact .inl hy
  ·exact .inr ⟨l, hl, of_decide_eq_true e⟩
theorem zoh {c : ConD} {nv : Nat} (hc : RightC c nv) : Sat Tryz.prog zLb [dC c] (.sl .int (scopeC c nv)) :=
 zLq c fun ok => by
  have hm := hc.many
  rw [zKq]
  refine ⟨_, zdh c.vars, ?_⟩
  refine up (I := fun n v a => zvf c _ n v a) 0 c.lits.length rfl (Nat.zero_le _) (by omega) (fun k a => a = c.vars ++ (c.lits.take k).map fun l => l.var) (by simp) fun n k a _ hk ha hn => ?_
  subst ha
  rw [zJq]
  by_cases h : k < c.lits.length
  ·rw [sel_lt h, at_nat (t := .lit) h]
   refine ⟨inb_nat h, room_of (t := .int) ?_, hn h _ ?_⟩
   ·rw [List.length_append, List.length_map, List.length_take]
    show (_ + 1) * 8 ≤ _
    omega
   ·rw [z3d _ h, List.append_assoc]
  ·have hk' : k = c.lits.length := by omega
   subst hk'
   rw [sel_end, List.take_length]
   refine ⟨_, zkh _, _, zlh _, ?_⟩
   rw [zWs hc]
def atE (m : MdlD) (con : Int) : Int := if checkM m ≠ 0 then checkM m else if con < 0 ∨ (m.cons.length : Int) ≤ con then 5 else 0
theorem zD {m : MdlD} {con : Int} (h : atE m con = 0) : Right m ∧ 0 ≤ con ∧ con < m.cons.length := by
 unfold atE at h
 split at h
 ·rename_i h1; exact absurd h h1
 rename_i h1
 split at h
 ·exact absurd h (by decide)
 rename_i h2
 exact ⟨zSb (Decidable.not_not.1 h1), by omega, by omega⟩
def conAt (m : MdlD) (con : Int) : ConD := m.cons.getD con.toNat (Ty.dflt .con)
theorem zW {m : MdlD} {con : Int} (h : atE m con = 0) : RightC (conAt m con) m.vars.length := by
 obtain ⟨h1, h2, h3⟩ := zD h
 refine zQs h1.vars (h1.con _ ?_)
 rw [conAt, getD_at _ (show con.toNat < m.cons.length by omega)]
 exact List.getElem_mem _
def wholeM (m : MdlD) (vs : List Int) : Bool := !((m.vars.zip vs).any fun x => !inR x.2 x.1.lo x.1.hi) && !m.cons.any fun c => !trueC c vs
end Go.Proofs.YtajnbkhgnppckaaGreatDoor
