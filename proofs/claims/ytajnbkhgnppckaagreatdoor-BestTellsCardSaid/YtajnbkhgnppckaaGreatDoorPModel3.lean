/- What the program's calls of models answer: scopes, and what holds. -/
import Derived.Test.YtajnbkhgnppckaaGreatDoorPModel2
import Derived.Test.YtajnbkhgnppckaaGreatDoorPClause1
import Derived.Test.YtajnbkhgnppckaaGreatDoorPSort
namespace Go.Proofs.YtajnbkhgnppckaaGreatDoor
open Go.RowKit
set_option linter.unusedVariables false
set_option linter.unusedSimpArgs false
theorem zvn : ∀ {a b : List Int}, a.Pairwise (· < ·) → b.Pairwise (· < ·) → (∀ x, x ∈ a ↔ x ∈ b) → a = b
 | [], [], _, _, _ => rfl
 | [], y :: b, _, _, h => absurd ((h y).2 (List.mem_cons_self ..)) (by simp)
 | x :: a, [], _, _, h => absurd ((h x).1 (List.mem_cons_self ..)) (by simp)
 | x :: a, y :: b, ha, hb, h => by
  obtain ⟨ha1, ha2⟩ := List.pairwise_cons.1 ha
  obtain ⟨hb1, hb2⟩ := List.pairwise_cons.1 hb
  have e : x = y := by
   have h1 := (h x).1 (List.mem_cons_self ..)
   have h2 := (h y).2 (List.mem_cons_self ..)
   rcases List.mem_cons.1 h1 with h1 | h1
   ·exact h1
   rcases List.mem_cons.1 h2 with h2 | h2
   ·exact h2.symm
   have := hb1 x h1; have := ha1 y h2; omega
  subst e
  rw [zvn ha2 hb2 fun z => ⟨fun hz => ?_, fun hz => ?_⟩]
  ·rcases List.mem_cons.1 ((h z).1 (List.mem_cons_of_mem _ hz)) with rfl | hz'
   ·have := ha1 z hz; omega
   ·exact hz'
  ·rcases List.mem_cons.1 ((h z).2 (List.mem_cons_of_mem _ hz)) with rfl | hz'
   ·have := hb1 z hz; omega
   ·exact hz'
theorem zqj {l : List Int} {x : Int} : x ∈ Lib.compact l ↔ x ∈ l := by
 refine ⟨zun, fun h => ?_⟩
 obtain ⟨i, hi, rfl⟩ := List.getElem_of_mem h
 suffices H : ∀ i, i < l.length → l.toArray[i]! ∈ Lib.compact l by
  have := H i hi
  rwa [getElem!_pos l.toArray i (by simpa using hi), List.getElem_toArray] at this
 intro i
 induction i with
 | zero => exact fun hi => List.mem_map.2 ⟨0, List.mem_filter.2 ⟨List.mem_range.2 hi, by simp [Lib.keeps]⟩, rfl⟩
 | succ i ih =>
  intro hi
  by_cases hk : Lib.keeps l.toArray (i + 1) = true
  ·exact List.mem_map.2 ⟨i + 1, List.mem_filter.2 ⟨List.mem_range.2 hi, hk⟩, rfl⟩
  ·have e : l.toArray[i + 1]! = l.toArray[i]! := by
    unfold Lib.keeps at hk
    rw [decide_eq_true_iff, not_or] at hk
    exact Decidable.not_not.1 hk.2
   rw [e]; exact ih (by omega)
theorem zwn {l : List Int} (h : l.Pairwise (· ≤ ·)) : (Lib.compact l).Pairwise (· < ·) := by
 unfold Lib.compact Lib.compactUpTo
 rw [List.pairwise_map]
 have hr : ((List.range l.length).filter (Lib.keeps l.toArray)).Pairwise (· < ·) := (List.pairwise_lt_range).filter _
 refine hr.imp_of_mem fun {i j} hi hj hij => ?_
 have hj1 := List.mem_range.1 (List.mem_filter.1 hj).1
 have hj2 := (List.mem_filter.1 hj).2
 unfold Lib.keeps at hj2
 have hj3 := (of_decide_eq_true hj2).resolve_left (by omega)
 have le : ∀ p q, p ≤ q → q < l.length → l.toArray[p]! ≤ l.toArray[q]! := fun p q hpq hq => by
  rw [getElem!_pos l.toArray p (by simp; omega), getElem!_pos l.toArray q (by simpa using hq)]
  by_cases hpe : p = q
  ·subst hpe; exact Int.le_refl _
  ·have := List.pairwise_iff_getElem.1 h p q (by omega) hq (by omega)
   simpa using this
 have h1 := le i (j - 1) (by omega) (by omega)
 have h2 := le (j - 1) j (by omega) hj1
 omega
theorem sort_le (l : List Int) : (sortI l).Pairwise (· ≤ ·) := by
 have := List.pairwise_mergeSort (le := fun x y : Int => decide (x ≤ y)) (fun a b c h1 h2 => by simp at *; omega) (fun a b => by simp; omega) l
 exact this.imp fun h => of_decide_eq_true h
theorem upL_mem {lo : Int} {x : Int} : ∀ {n : Nat}, x ∈ upL lo n ↔ lo ≤ x ∧ x < lo + n
 | 0 => by simp [upL]
 | n + 1 => by rw [upL, List.mem_append, upL_mem (n := n), List.mem_singleton]; omega
theorem zrj {lo : Int} : ∀ {n : Nat}, (upL lo n).Pairwise (· < ·)
 | 0 => .nil
 | n + 1 => by
  rw [upL, List.pairwise_append]
  refine ⟨zrj, List.pairwise_singleton _ _, fun a ha b hb => ?_⟩
  rw [List.mem_singleton] at hb
  have := (upL_mem.1 ha).2
  omega
def inC (c : ConD) (v : Int) : Bool := (c.vars.any fun x => decide (x = v)) || c.lits.any fun l => decide (l.var = v)
def scopeC (c : ConD) (nv : Nat) : List Int := (upL 0 nv).filter (inC c)
theorem z3w {c : ConD} {nv : Nat} (hc : RightC c nv) : Lib.compact (sortI (c.vars ++ c.lits.map fun l => l.var)) = scopeC c nv := by
 refine zvn (zwn (sort_le _)) (zrj.filter _) fun x => ?_
 rw [zqj, (List.mergeSort_perm _ _).mem_iff, scopeC, List.mem_filter, upL_mem, inC, Bool.or_eq_true, List.any_eq_true, List.any_eq_true, List.mem_append, List.mem_map]
 constructor
 ·rintro (h | ⟨l, hl, rfl⟩)
  ·exact ⟨by have := hc.vars x h; omega, .inl ⟨x, h, decide_eq_true rfl⟩⟩
  ·exact ⟨by have := (zu.1 (hc.lits l hl)).1; omega, .inr ⟨l, hl, decide_eq_true rfl⟩⟩
 ·rintro ⟨_, ⟨y, hy, e⟩ | ⟨l, hl, e⟩⟩
  ·rw [← of_decide_eq_true e]; exact .inl hy
  ·exact .inr ⟨l, hl, of_decide_eq_true e⟩
theorem zsj {c : ConD} {nv : Nat} (hc : RightC c nv) : Sat Tryz.prog zrc [dC c] (.sl .int (scopeC c nv)) :=
 zlt c fun ok => by
  have hm := hc.many
  rw [zkt]
  refine ⟨_, zkj c.vars, ?_⟩
  refine up (I := fun n v a => zIg c _ n v a) 0 c.lits.length rfl (Nat.zero_le _) (by omega) (fun k a => a = c.vars ++ (c.lits.take k).map fun l => l.var) (by simp) fun n k a _ hk ha hn => ?_
  subst ha
  rw [zjt]
  by_cases h : k < c.lits.length
  ·rw [sel_lt h, at_nat (t := .lit) h]
   refine ⟨inb_nat h, room_of (t := .int) ?_, hn h _ ?_⟩
   ·rw [List.length_append, List.length_map, List.length_take]
    show (_ + 1) * 8 ≤ _
    omega
   ·rw [zCd _ h, List.append_assoc]
  ·have hk' : k = c.lits.length := by omega
   subst hk'
   rw [sel_end, List.take_length]
   refine ⟨_, zoj _, _, zpj _, ?_⟩
   rw [z3w hc]
theorem z4w (m : MdlD) {c : ConD} (hc : RightC c m.vars.length) : Sat Tryz.prog zUd [dM m, dC c] (.sl .int (scopeC c m.vars.length)) :=
 z5u m c fun ok => by
  have hm := hc.many
  have hnv := hc.nv6
  rw [z4u]
  refine up (I := fun n v a => z7d m c _ n v a) 0 m.vars.length rfl (Nat.zero_le _) (by omega) (fun k a => a = scopeC c k) rfl fun n k a _ hk ha hn => ?_
  subst ha
  rw [z3u]
  by_cases h : k < m.vars.length
  ·rw [sel_lt h]
   refine up (I := fun n2 v a => z6d m c _ n k _ n2 a v) 0 c.vars.length rfl (Nat.zero_le _) (by omega) (fun j a => a = (c.vars.take j).any fun x => decide (x = (k : Int))) rfl fun n2 j a _ hj ha hn2 => ?_
   subst ha
   rw [z2u]
   by_cases h2 : j < c.vars.length
   ·rw [sel_lt h2, at_nat (t := .int) h2]
    refine za (fun e => hn2 h2 _ ?_) fun e => ⟨inb_nat h2, hn2 h2 _ ?_⟩
    ·rw [zpb _ h2, e]; rfl
    ·rw [zpb _ h2, e]; rfl
   ·have hj' : j = c.vars.length := by omega
    subst hj'
    rw [sel_end, List.take_length]
    refine up (I := fun n4 v a => z5d m c _ n k _ n4 a v) 0 c.lits.length rfl (Nat.zero_le _) (by omega) (fun j a => a = ((c.vars.any fun x => decide (x = (k : Int))) || (c.lits.take j).any fun l => decide (l.var = (k : Int)))) (by simp) fun n4 j a _ hj ha hn4 => ?_
    subst ha
    rw [z1u]
    by_cases h4 : j < c.lits.length
    ·rw [sel_lt h4, at_nat (t := .lit) h4]
     refine za (fun e => hn4 h4 _ ?_) fun e => ⟨inb_nat h4, hn4 h4 _ ?_⟩
     ·rw [zpb _ h4, ← Bool.or_assoc, e]; rfl
     ·rw [zpb _ h4, ← Bool.or_assoc, e]; rfl
    ·have hj' : j = c.lits.length := by omega
     subst hj'
     rw [sel_end, List.take_length]
     have hs : scopeC c (k + 1) = if inC c k = true then scopeC c k ++ [(k : Int)] else scopeC c k := by
      rw [scopeC, upL, List.filter_append, Int.zero_add]
      by_cases e : inC c k = true
      ·rw [if_pos e, List.filter_cons, if_pos e]; rfl
      ·rw [if_neg e, List.filter_cons, if_neg e, List.filter_nil, List.append_nil]; rfl
     refine za (fun e => ⟨room_of (t := .int) ?_, hn h _ ?_⟩) fun e => hn h _ ?_
     ·have := List.length_filter_le (inC c) (upL 0 k)
      rw [z6b] at this
      show ((scopeC c k).length + 1) * 8 ≤ _
      rw [scopeC]; omega
     ·rw [hs, if_pos (show inC c k = true from e)]
     ·rw [hs, if_neg (by rw [show inC c k = false from e]; decide)]
  ·have hk' : k = m.vars.length := by omega
   subst hk'
   rw [sel_end]
def atE (m : MdlD) (con : Int) : Int := if checkM m ≠ 0 then checkM m else if con < 0 ∨ (m.cons.length : Int) ≤ con then 5 else 0
theorem zI {m : MdlD} {con : Int} (h : atE m con = 0) : Right m ∧ 0 ≤ con ∧ con < m.cons.length := by
 unfold atE at h
 split at h
 ·rename_i h1; exact absurd h h1
 rename_i h1
 split at h
 ·exact absurd h (by decide)
 rename_i h2
 exact ⟨zbb (Decidable.not_not.1 h1), by omega, by omega⟩
def conAt (m : MdlD) (con : Int) : ConD := m.cons.getD con.toNat (Ty.dflt .con)
theorem zqb {m : MdlD} {con : Int} (h : atE m con = 0) : RightC (conAt m con) m.vars.length := by
 obtain ⟨h1, h2, h3⟩ := zI h
 refine zfn h1.vars (h1.con _ ?_)
 rw [conAt, getD_at _ (show con.toNat < m.cons.length by omega)]
 exact List.getElem_mem _
def wholeM (m : MdlD) (vs : List Int) : Bool := !((m.vars.zip vs).any fun x => !inR x.2 x.1.lo x.1.hi) && !m.cons.any fun c => !trueC c vs
theorem z5w {m : MdlD} (hr : Right m) {vs : List Int} (hl : vs.length = m.vars.length) (h : ((m.vars.zip vs).any fun x => !inR x.2 x.1.lo x.1.hi) = false) : GoodV vs m.vars.length := by
 refine ⟨hl, fun n hn => ?_⟩
 obtain ⟨i, hi, rfl⟩ := List.getElem_of_mem hn
 have hz : i < (m.vars.zip vs).length := by rw [List.length_zip]; omega
 have := zRm h hz
 rw [List.getElem_zip] at this
 have hv := hr.var _ (List.getElem_mem (show i < m.vars.length by omega))
 simp [inR] at this
 omega
end Go.Proofs.YtajnbkhgnppckaaGreatDoor
