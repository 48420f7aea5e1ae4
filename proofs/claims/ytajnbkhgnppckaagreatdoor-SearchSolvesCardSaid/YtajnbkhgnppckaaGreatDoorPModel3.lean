/- What the program's calls of models answer: scopes, and what holds. -/
import Derived.Test.YtajnbkhgnppckaaGreatDoorPModel2
import Derived.Test.YtajnbkhgnppckaaGreatDoorPClause1
import Derived.Test.YtajnbkhgnppckaaGreatDoorPSort
namespace Go.Proofs.YtajnbkhgnppckaaGreatDoor
open Go.RowKit
set_option linter.unusedVariables false
set_option linter.unusedSimpArgs false
theorem zLn : ∀ {a b : List Int}, a.Pairwise (· < ·) → b.Pairwise (· < ·) → (∀ x, x ∈ a ↔ x ∈ b) → a = b
 | [], [], _, _, _ => rfl
 | [], y :: b, _, _, h => absurd ((h y).2 (List.mem_cons_self ..)) (by simp)
 | x :: a, [], _, _, h => absurd ((h x).1 (List.mem_cons_self ..)) (by simp)
 | x :: a, y :: b, ha, hb, h => by
  obtain ⟨ha1, ha2⟩ := List.pairwise_cons.1 ha
  obtain ⟨hb1, hb2⟩ := List.pairwise_cons.1 hb
  have e : x = y := by
   have h1 := (h x).1 (List.mem_cons_self ..)
   have h2 := (h y).2 (List.mem_cons_self ..)
   rcases List.mem_cons.1 h1 with h1 | h1
   ·exact h1
   rcases List.mem_cons.1 h2 with h2 | h2
   ·exact h2.symm
   have := hb1 x h1; have := ha1 y h2; omega
  subst e
  rw [zLn ha2 hb2 fun z => ⟨fun hz => ?_, fun hz => ?_⟩]
  ·rcases List.mem_cons.1 ((h z).1 (List.mem_cons_of_mem _ hz)) with rfl | hz'
   ·have := ha1 z hz; omega
   ·exact hz'
  ·rcases List.mem_cons.1 ((h z).2 (List.mem_cons_of_mem _ hz)) with rfl | hz'
   ·have := hb1 z hz; omega
   ·exact hz'
theorem zEj {l : List Int} {x : Int} : x ∈ Lib.compact l ↔ x ∈ l := by
 refine ⟨zKn, fun h => ?_⟩
 obtain ⟨i, hi, rfl⟩ := List.getElem_of_mem h
 suffices H : ∀ i, i < l.length → l.toArray[i]! ∈ Lib.compact l by
  have := H i hi
  rwa [getElem!_pos l.toArray i (by simpa using hi), List.getElem_toArray] at this
 intro i
 induction i with
 | zero => exact fun hi => List.mem_map.2 ⟨0, List.mem_filter.2 ⟨List.mem_range.2 hi, by simp [Lib.keeps]⟩, rfl⟩
 | succ i ih =>
  intro hi
  by_cases hk : Lib.keeps l.toArray (i + 1) = true
  ·exact List.mem_map.2 ⟨i + 1, List.mem_filter.2 ⟨List.mem_range.2 hi, hk⟩, rfl⟩
  ·have e : l.toArray[i + 1]! = l.toArray[i]! := by
    unfold Lib.keeps at hk
    rw [decide_eq_true_iff, not_or] at hk
    exact Decidable.not_not.1 hk.2
   rw [e]; exact ih (by omega)
theorem zMn {l : List Int} (h : l.Pairwise (· ≤ ·)) : (Lib.compact l).Pairwise (· < ·) := by
 unfold Lib.compact Lib.compactUpTo
 rw [List.pairwise_map]
 have hr : ((List.range l.length).filter (Lib.keeps l.toArray)).Pairwise (· < ·) := (List.pairwise_lt_range).filter _
 refine hr.imp_of_mem fun {i j} hi hj hij => ?_
 have hj1 := List.mem_range.1 (List.mem_filter.1 hj).1
 have hj2 := (List.mem_filter.1 hj).2
 unfold Lib.keeps at hj2
 have hj3 := (of_decide_eq_true hj2).resolve_left (by omega)
 have le : ∀ p q, p ≤ q → q < l.length → l.toArray[p]! ≤ l.toArray[q]! := fun p q hpq hq => by
  rw [getElem!_pos l.toArray p (by simp; omega), getElem!_pos l.toArray q (by simpa using hq)]
  by_cases hpe : p = q
  ·subst hpe; exact Int.le_refl _
  ·have := List.pairwise_iff_getElem.1 h p q (by omega) hq (by omega)
   simpa using this
 have h1 := le i (j - 1) (by omega) (by omega)
 have h2 := le (j - 1) j (by omega) hj1
 omega
theorem sort_le (l : List Int) : (sortI l).Pairwise (· ≤ ·) := by
 have := List.pairwise_mergeSort (le := fun x y : Int => decide (x ≤ y)) (fun a b c h1 h2 => by simp at *; omega) (fun a b => by simp; omega) l
 exact this.imp fun h => of_decide_eq_true h
theorem upL_mem {lo : Int} {x : Int} : ∀ {n : Nat}, x ∈ upL lo n ↔ lo ≤ x ∧ x < lo + n
 | 0 => by simp [upL]
 | n + 1 => by rw [upL, List.mem_append, upL_mem (n := n), List.mem_singleton]; omega
theorem zFj {lo : Int} : ∀ {n : Nat}, (upL lo n).Pairwise (· < ·)
 | 0 => .nil
 | n + 1 => by
  rw [upL, List.pairwise_append]
  refine ⟨zFj, List.pairwise_singleton _ _, fun a ha b hb => ?_⟩
  rw [List.mem_singleton] at hb
  have := (upL_mem.1 ha).2
  omega
def inC (c : ConD) (v : Int) : Bool := (c.vars.any fun x => decide (x = v)) || c.lits.any fun l => decide (l.var = v)
def scopeC (c : ConD) (nv : Nat) : List Int := (upL 0 nv).filter (inC c)
theorem zGx {c : ConD} {nv : Nat} (hc : RightC c nv) : Lib.compact (sortI (c.vars ++ c.lits.map fun l => l.var)) = scopeC c nv := by
 refine zLn (zMn (sort_le _)) (zFj.filter _) fun x => ?_
 rw [zEj, (List.mergeSort_perm _ _).mem_iff, scopeC, List.mem_filter, upL_mem, inC, Bool.or_eq_true, List.any_eq_true, List.any_eq_true, List.mem_append, List.mem_map]
 constructor
 ·rintro (h | ⟨l, hl, rfl⟩)
  ·exact ⟨by have := hc.vars x h; omega, .inl ⟨x, h, decide_eq_true rfl⟩⟩
  ·exact ⟨by have := (zJ.1 (hc.lits l hl)).1; omega, .inr ⟨l, hl, decide_eq_true rfl⟩⟩
 ·rintro ⟨_, ⟨y, hy, e⟩ | ⟨l, hl, e⟩⟩
  ·rw [← of_decide_eq_true e]; exact .inl hy
  ·exact .inr ⟨l, hl, of_decide_eq_true e⟩
theorem zZh {c : ConD} {nv : Nat} (hc : RightC c nv) : Sat Tryz.prog z1b [dC c] (.sl .int (scopeC c nv)) :=
 zRt c fun ok => by
  have hm := hc.many
  rw [zQt]
  refine ⟨_, zyj c.vars, ?_⟩
  refine up (I := fun n v a => z1g c _ n v a) 0 c.lits.length rfl (Nat.zero_le _) (by omega) (fun k a => a = c.vars ++ (c.lits.take k).map fun l => l.var) (by simp) fun n k a _ hk ha hn => ?_
  subst ha
  rw [zPt]
  by_cases h : k < c.lits.length
  ·rw [sel_lt h, at_nat (t := .lit) h]
   refine ⟨inb_nat h, room_of (t := .int) ?_, hn h _ ?_⟩
   ·rw [List.length_append, List.length_map, List.length_take]
    show (_ + 1) * 8 ≤ _
    omega
   ·rw [zLd _ h, List.append_assoc]
  ·have hk' : k = c.lits.length := by omega
   subst hk'
   rw [sel_end, List.take_length]
   refine ⟨_, zCj _, _, zDj _, ?_⟩
   rw [zGx hc]
theorem zHx (m : MdlD) {c : ConD} (hc : RightC c m.vars.length) : Sat Tryz.prog z6d [dM m, dC c] (.sl .int (scopeC c m.vars.length)) :=
 zBv m c fun ok => by
  have hm := hc.many
  have hnv := hc.nv6
  rw [zAv]
  refine up (I := fun n v a => zje m c _ n v a) 0 m.vars.length rfl (Nat.zero_le _) (by omega) (fun k a => a = scopeC c k) rfl fun n k a _ hk ha hn => ?_
  subst ha
  rw [zzv]
  by_cases h : k < m.vars.length
  ·rw [sel_lt h]
   refine up (I := fun n2 v a => zie m c _ n k _ n2 a v) 0 c.vars.length rfl (Nat.zero_le _) (by omega) (fun j a => a = (c.vars.take j).any fun x => decide (x = (k : Int))) rfl fun n2 j a _ hj ha hn2 => ?_
   subst ha
   rw [zyv]
   by_cases h2 : j < c.vars.length
   ·rw [sel_lt h2, at_nat (t := .int) h2]
    refine za (fun e => hn2 h2 _ ?_) fun e => ⟨inb_nat h2, hn2 h2 _ ?_⟩
    ·rw [zpb _ h2, e]; rfl
    ·rw [zpb _ h2, e]; rfl
   ·have hj' : j = c.vars.length := by omega
    subst hj'
    rw [sel_end, List.take_length]
    refine up (I := fun n4 v a => zhe m c _ n k _ n4 a v) 0 c.lits.length rfl (Nat.zero_le _) (by omega) (fun j a => a = ((c.vars.any fun x => decide (x = (k : Int))) || (c.lits.take j).any fun l => decide (l.var = (k : Int)))) (by simp) fun n4 j a _ hj ha hn4 => ?_
    subst ha
    rw [zxv]
    by_cases h4 : j < c.lits.length
    ·rw [sel_lt h4, at_nat (t := .lit) h4]
     refine za (fun e => hn4 h4 _ ?_) fun e => ⟨inb_nat h4, hn4 h4 _ ?_⟩
     ·rw [zpb _ h4, ← Bool.or_assoc, e]; rfl
     ·rw [zpb _ h4, ← Bool.or_assoc, e]; rfl
    ·have hj' : j = c.lits.length := by omega
     subst hj'
     rw [sel_end, List.take_length]
     have hs : scopeC c (k + 1) = if inC c k = true then scopeC c k ++ [(k : Int)] else scopeC c k := by
      rw [scopeC, upL, List.filter_append, Int.zero_add]
      by_cases e : inC c k = true
      ·rw [if_pos e, List.filter_cons, if_pos e]; rfl
      ·rw [if_neg e, List.filter_cons, if_neg e, List.filter_nil, List.append_nil]; rfl
     refine za (fun e => ⟨room_of (t := .int) ?_, hn h _ ?_⟩) fun e => hn h _ ?_
     ·have := List.length_filter_le (inC c) (upL 0 k)
      rw [zbc] at this
      show ((scopeC c k).length + 1) * 8 ≤ _
      rw [scopeC]; omega
     ·rw [hs, if_pos (show inC c k = true from e)]
     ·rw [hs, if_neg (by rw [show inC c k = false from e]; decide)]
  ·have hk' : k = m.vars.length := by omega
   subst hk'
   rw [sel_end]
def atE (m : MdlD) (con : Int) : Int := if checkM m ≠ 0 then checkM m else if con < 0 ∨ (m.cons.length : Int) ≤ con then 5 else 0
def rdyM (m : MdlD) (con : Int) (n : Int) : Int := if atE m con ≠ 0 then atE m con else if n ≠ m.vars.length then 1 else 0
theorem zNn (m : MdlD) (con n : Int) : Sat Tryz.prog zWd [dM m, dI con, dI n] (dI (rdyM m con n)) :=
 zEt m con n fun ok => by
  rw [zDt]
  refine call1 (zpe m) (za (fun e => ?_) fun e => ?_)
  ·have e := zE e
   have : atE m con = checkM m := if_pos e
   exact dI_of (by rw [rdyM, this, if_pos e])
  have e := not_not_intro (zr e)
  refine za (fun f => ?_) fun f => za (fun g => ?_) fun g => ?_
  ·have : atE m con = 5 := by rw [atE, if_neg e, if_pos (.inl (of_decide_eq_true f))]
   exact dI_of (by rw [rdyM, this]; rfl)
  ·have : atE m con = 5 := by rw [atE, if_neg e, if_pos (.inr (of_decide_eq_true g))]
   exact dI_of (by rw [rdyM, this]; rfl)
  have : atE m con = 0 := by
   rw [atE, if_neg e, if_neg]
   rintro (h | h)
   ·exact of_decide_eq_false f h
   ·exact of_decide_eq_false g h
  refine za (fun h => ?_) fun h => ?_
  ·exact dI_of (by rw [rdyM, this, if_neg (by decide), if_pos (by simpa using h)])
  ·exact dI_of (by rw [rdyM, this, if_neg (by decide), if_neg (not_not_intro (by simpa using h))])
theorem zx {m : MdlD} {con : Int} (h : atE m con = 0) : Right m ∧ 0 ≤ con ∧ con < m.cons.length := by
 unfold atE at h
 split at h
 ·rename_i h1; exact absurd h h1
 rename_i h1
 split at h
 ·exact absurd h (by decide)
 rename_i h2
 exact ⟨zY (Decidable.not_not.1 h1), by omega, by omega⟩
theorem zIx {m : MdlD} {con n : Int} (h : rdyM m con n = 0) : atE m con = 0 ∧ n = m.vars.length := by
 unfold rdyM at h
 split at h
 ·rename_i h1; exact absurd h h1
 rename_i h1
 split at h
 ·exact absurd h (by decide)
 rename_i h2
 exact ⟨Decidable.not_not.1 h1, Decidable.not_not.1 h2⟩
def conAt (m : MdlD) (con : Int) : ConD := m.cons.getD con.toNat (Ty.dflt .con)
theorem zcb {m : MdlD} {con : Int} (h : atE m con = 0) : RightC (conAt m con) m.vars.length := by
 obtain ⟨h1, h2, h3⟩ := zx h
 refine zzj h1.vars (h1.con _ ?_)
 rw [conAt, getD_at _ (show con.toNat < m.cons.length by omega)]
 exact List.getElem_mem _
def orIs (e : Int) (l : List Int) : List Int := if e = 0 then l else []
theorem orIs0 {e : Int} {l : List Int} (h : e = 0) : orIs e l = l := if_pos h
theorem orIs1 {e : Int} {l : List Int} (h : e ≠ 0) : orIs e l = [] := if_neg h
theorem zJx (m : MdlD) (con : Int) : rdyM m con m.vars.length = atE m con := by
 unfold rdyM
 split
 ·rfl
 ·rename_i h; rw [if_neg (not_not_intro rfl), Decidable.not_not.1 h]
theorem zKx (m : MdlD) (con : Int) : Sat Tryz.prog zSd [dM m, dI con] (.tup [.sl .int (orIs (atE m con) (scopeC (conAt m con) m.vars.length)), dI (atE m con)]) :=
 zut m con fun ok => by
  rw [ztt]
  refine call1 (zNn m con _) ?_
  rw [zJx]
  refine za (fun e => ?_) fun e => ?_
  ·rw [orIs1 (zE e)]
  ·have e := zr e
   rw [orIs0 e, e]
   exact ⟨inb_iff.2 (zx e).2, call1 (zZh (zcb e)) rfl⟩
theorem zLx (n : Int) : Sat Tryz.prog zBf [dI n] (dB (!inR n (-50) 50)) :=
 zGt n fun ok => by rw [zFt]; exact call1 (zJb _ _ _) rfl
def holdsE (m : MdlD) (con : Int) (vs : List Int) : Int := if rdyM m con vs.length ≠ 0 then rdyM m con vs.length else if (vs.any fun n => !inR n (-50) 50) = true then 3 else 0
theorem zMx (m : MdlD) (con : Int) (vs : List Int) : Sat Tryz.prog zRd [dM m, dI con, .sl .int vs] (.tup [dB (orB (holdsE m con vs) (trueC (conAt m con) vs)), dI (holdsE m con vs)]) :=
 zst m con vs fun ok => by
  rw [zrt]
  refine call1 (zNn m con _) (za (fun e => ?_) fun e => ?_)
  ·have e := zE e
   rw [show holdsE m con vs = rdyM m con vs.length from if_pos e, orB1 e]
  have e := zr e
  obtain ⟨e1, e2⟩ := zIx e
  refine call1 (zne z9v fun n _ => zLx n) (za (fun f => ?_) fun f => ?_)
  ·rw [show holdsE m con vs = 3 by rw [holdsE, if_neg (not_not_intro e), if_pos f]]; rfl
  ·have h0 : holdsE m con vs = 0 := by rw [holdsE, if_neg (not_not_intro e), if_neg (by rw [f]; decide)]
   have hg : GoodV vs m.vars.length := ⟨by omega, fun n hn => by have := List.any_eq_false.1 f n hn; simp [inR] at this; omega⟩
   rw [h0]
   exact ⟨inb_iff.2 (zx e1).2, call1 (zwe (zcb e1) hg) rfl⟩
def wholeM (m : MdlD) (vs : List Int) : Bool := !((m.vars.zip vs).any fun x => !inR x.2 x.1.lo x.1.hi) && !m.cons.any fun c => !trueC c vs
theorem zOn {m : MdlD} (hr : Right m) {vs : List Int} (hl : vs.length = m.vars.length) (h : ((m.vars.zip vs).any fun x => !inR x.2 x.1.lo x.1.hi) = false) : GoodV vs m.vars.length := by
 refine ⟨hl, fun n hn => ?_⟩
 obtain ⟨i, hi, rfl⟩ := List.getElem_of_mem hn
 have hz : i < (m.vars.zip vs).length := by rw [List.length_zip]; omega
 have := z8m h hz
 rw [List.getElem_zip] at this
 have hv := hr.var _ (List.getElem_mem (show i < m.vars.length by omega))
 simp [inR] at this
 omega
theorem zNx {c : ConD} {vs : List Int} {nv : Nat} (hc : RightC c nv) (hv : GoodV vs nv) : Sat Tryz.prog zDf [dC c, .iptr [.sl .int vs] 0] (dB (!trueC c vs)) :=
 zTt c vs fun ok => by rw [zSt]; exact call1 (zwe hc hv) rfl
theorem zOx {m : MdlD} (hr : Right m) {vs : List Int} (hl : vs.length = m.vars.length) : Sat Tryz.prog zrf [dM m, .sl .int vs] (dB (wholeM m vs)) :=
 zwt m vs fun ok => by
  have hv := hr.vars
  have hz : (m.vars.zip vs).length = m.vars.length := by rw [List.length_zip]; omega
  rw [zvt]
  refine any1 (I := fun n v => zPg m vs _ n v) (m.vars.zip vs) (fun x => !inR x.2 x.1.lo x.1.hi) (by omega) (X := dB false = dB (wholeM m vs)) (fun e => by rw [wholeM, e]; rfl) (fun n k h hX hn => ?_) fun e n => ?_
  ·have hk : k < m.vars.length := by omega
   have hk2 : k < vs.length := by omega
   rw [List.getElem_zip] at hX hn
   rw [z5l, sel_lt hk, at_nat (t := .var) hk, at_nat (t := .int) hk2]
   exact ⟨inb_nat hk, inb_nat hk2, call1 (zJb _ _ _) (za hX hn)⟩
  ·rw [hz, z5l, sel_end]
   refine call1 (z5v (p := fun c => !trueC c vs) zaw fun c hc => zNx (zzj hr.vars (hr.con c hc)) (zOn hr hl e)) ?_
   rw [wholeM, e]; rfl
def allE (m : MdlD) (vs : List Int) : Int := if checkM m ≠ 0 then checkM m else if vs.length ≠ m.vars.length then 1 else 0
theorem zPx (m : MdlD) (vs : List Int) : Sat Tryz.prog zOd [dM m, .sl .int vs] (.tup [dB (orB (allE m vs) (wholeM m vs)), dI (allE m vs)]) :=
 zot m vs fun ok => by
  rw [znt]
  refine call1 (zpe m) (za (fun e => ?_) fun e => za (fun f => ?_) fun f => ?_)
  ·have e := zE e
   rw [show allE m vs = checkM m from if_pos e, orB1 e]
  ·have e := not_not_intro (zr e)
   rw [show allE m vs = 1 by rw [allE, if_neg e, if_pos (by simp at f; omega)]]; rfl
  ·have e1 := not_not_intro (zr e)
   have f : vs.length = m.vars.length := by simp at f; omega
   rw [show allE m vs = 0 by rw [allE, if_neg e1, if_neg (not_not_intro f)]]
   exact call1 (zOx (zY (zr e)) f) rfl
end Go.Proofs.YtajnbkhgnppckaaGreatDoor
