/- What the document says of constraints that hold: the same as it means. -/
import Derived.Test.YtajnbkhgnppckaaGreatDoorPModel3
namespace Go.Proofs.YtajnbkhgnppckaaGreatDoor
open Go.RowKit
set_option linter.unusedVariables false
set_option linter.unusedSimpArgs false
theorem zCo {l : List Int} : (∀ i (hi : i < l.length) j (hj : j < i), l[i] ≠ l[j]'(by omega)) ↔ l.Nodup := by
 rw [List.Nodup, List.pairwise_iff_getElem]
 exact ⟨fun h i j hi hj hij e => h j hj i hij e.symm, fun h i hi j hj e => h j i (by omega) hi hj e.symm⟩
theorem maxL_ge : ∀ (l : List Int) (a : Int), a ≤ maxL a l ∧ ∀ x ∈ l, x ≤ maxL a l
 | [], a => ⟨Int.le_refl _, fun x h => by simp at h⟩
 | y :: l, a => by
  obtain ⟨h1, h2⟩ := maxL_ge l (if y > a then y else a)
  have e : maxL a (y :: l) = maxL (if y > a then y else a) l := rfl
  rw [e]
  have h3 : a ≤ (if y > a then y else a) ∧ y ≤ (if y > a then y else a) := by split <;> omega
  refine ⟨Int.le_trans h3.1 h1, fun x hx => ?_⟩
  rcases List.mem_cons.1 hx with rfl | hx
  ·exact Int.le_trans h3.2 h1
  ·exact h2 x hx
theorem z2j : ∀ (l : List Int) (a : Int), maxL a l = a ∨ maxL a l ∈ l
 | [], a => .inl rfl
 | y :: l, a => by
  have e : maxL a (y :: l) = maxL (if y > a then y else a) l := rfl
  rw [e]
  rcases z2j l (if y > a then y else a) with h | h
  ·rw [h]
   split
   ·exact .inr (List.mem_cons_self ..)
   ·exact .inl rfl
  ·exact .inr (List.mem_cons_of_mem _ h)
theorem max_iff {l : List Int} {x a : Int} (ha : a ∈ l) : x = maxL a l ↔ (∀ y ∈ l, y ≤ x) ∧ x ∈ l := by
 obtain ⟨h1, h2⟩ := maxL_ge l a
 constructor
 ·rintro rfl
  refine ⟨h2, ?_⟩
  rcases z2j l a with h | h
  ·rw [h]; exact ha
  ·exact h
 ·rintro ⟨h3, h4⟩
  have := h2 x h4
  rcases z2j l a with h | h
  ·have := h3 a ha; omega
  ·have := h3 _ h; omega
theorem z3j {c : ConD} {vs : List Int} {nv : Nat} (hc : RightC c nv) (hv : GoodV vs nv) : Sat Tryz.prog zXc [dC c, .sl .int vs] (dB (trueC c vs)) :=
 zRu c vs fun ok => by
  obtain ⟨hk1, hk2⟩ := hc.kind
  have hm := hc.many
  have hf := hc.formC
  have hxl : (valsC c vs).length = c.vars.length := zcc
  have hnear := zXh (c := c) hv
  have hx : ∀ {k : Nat} (h : k < c.vars.length), (valsC c vs).getD k 0 = (valsC c vs)[k] := fun h => getD_at _ (by omega)
  rw [zQu]
  refine up (I := fun n v a => zqh c vs _ n v a) 0 c.vars.length rfl (Nat.zero_le _) (by omega) (fun k a => a = (valsC c vs).take k) (by rw [List.take_zero]) fun n k a _ hkl ha hn => ?_
  subst ha
  rw [zPu]
  by_cases h : k < c.vars.length
  ·rw [sel_lt h, at_nat (t := .int) h]
   have hv1 := hc.vars _ (List.getElem_mem h)
   refine ⟨inb_nat h, inb_iff.2 (by rw [hv.len]; omega), room_of (t := .int) ?_, hn h _ ?_⟩
   ·rw [List.length_take]
    show (_ + 1) * 8 ≤ _
    omega
   ·rw [← List.take_append_getElem (show k < (valsC c vs).length by omega), zmd h]; rfl
  have hk' : k = c.vars.length := by omega
  subst hk'
  rw [sel_end, List.take_of_length_le (by omega)]
  by_cases h3 : c.kind ≤ 3
  ·refine dt h3 ?_
   have hfc := hf.sums h3
   have hz : (c.consts.zip (valsC c vs)).length = c.consts.length := by rw [List.length_zip]; omega
   have hnr : ∀ x ∈ c.consts.zip (valsC c vs), (-1000 ≤ x.1 ∧ x.1 ≤ 1000) ∧ -50 ≤ x.2 ∧ x.2 ≤ 50 := fun x hx => ⟨hc.consts _ (List.of_mem_zip hx).1, hnear _ (List.of_mem_zip hx).2⟩
   refine up (I := fun n v a => zkh c vs _ (valsC c vs) n a v) 0 (valsC c vs).length rfl (Nat.zero_le _) (by omega) (fun k a => a = sumZ ((c.consts.zip (valsC c vs)).take k)) (by rw [List.take_zero]; rfl) fun n2 k a _ hk2 ha hn2 => ?_
   subst ha
   rw [zKu]
   by_cases h : k < (valsC c vs).length
   ·have hkc : k < c.consts.length := by omega
    have hkz : k < (c.consts.zip (valsC c vs)).length := by omega
    have h1 := hc.consts _ (List.getElem_mem hkc)
    have h2 := hnear _ (List.getElem_mem h)
    have h3 := zve h1 h2
    have h4 := zwn fun x hx => hnr x (List.mem_of_mem_take (i := k) hx)
    rw [List.length_take] at h4
    rw [sel_lt h, at_nat (t := .int) h, at_nat (t := .int) hkc, Int.mul_comm (valsC c vs)[k]]
    refine ⟨inb_nat h, inb_nat hkc, hn2 h _ ?_⟩
    rw [zxn hkz, List.getElem_zip, w64_eq (n := _ * _) (by omega) (by omega), w64_eq (by omega) (by omega)]
   ·have hk' : k = (valsC c vs).length := by omega
    subst hk'
    rw [sel_end, List.take_of_length_le (by omega)]
    have : c.kind = 1 ∨ c.kind = 2 ∨ c.kind = 3 := by omega
    rcases this with e | e | e
    ·refine dt e ?_
     simp [trueC, e]
    ·refine df (by omega) (dt e ?_)
     simp [trueC, e]
    ·refine df (by omega) (df (by omega) (dt e ?_))
     simp [trueC, e]
  refine df h3 (df (by omega) (df (by omega) (df (by omega) ?_)))
  refine za (fun e => ?_) fun e4 => za (fun e => ?_) fun e5 => za (fun e => ?_) fun e6 => za (fun e => ?_) fun e7 => za (fun e => ?_) fun e8 => za (fun e => ?_) fun e9 => ?_
  ·have e := of_decide_eq_true e
   have ht : trueC c vs = decide (valsC c vs).Nodup := by simp [trueC, e]
   rw [ht]
   refine up0 (I := fun n v => zmh _ (valsC c vs) n v) 0 (valsC c vs).length rfl (Nat.zero_le _) (by omega) (fun k => ∀ i (hi : i < (valsC c vs).length) j (hj : j < i), i < k → (valsC c vs)[i] ≠ (valsC c vs)[j]'(by omega)) (fun i _ j _ h => absurd h (Nat.not_lt_zero _)) fun n5 k _ hk hi hn5 => ?_
   rw [zMu]
   by_cases h : k < (valsC c vs).length
   ·rw [sel_lt h]
    refine up0 (I := fun n7 v => zlh _ (valsC c vs) n5 k n7 v) 0 k rfl (Nat.zero_le _) (by omega) (fun l => ∀ j (hj : j < k), j < l → (valsC c vs)[k] ≠ (valsC c vs)[j]'(by omega)) (fun j _ h => absurd h (Nat.not_lt_zero _)) fun n7 l _ hl hi7 hn7 => ?_
    rw [zLu]
    by_cases h7 : l < k
    ·have hl2 : l < (valsC c vs).length := by omega
     rw [sel_lt h7, at_nat (t := .int) h, at_nat (t := .int) hl2]
     refine ⟨inb_nat h, inb_nat hl2, za (fun f => ?_) fun f => hn7 h7 fun j hj hjl => ?_⟩
     ·rw [decide_eq_false (p := (valsC c vs).Nodup) fun x => (zCo.2 x) k h l h7 (of_decide_eq_true f)]
     ·by_cases hjl2 : j = l
      ·subst hjl2; exact of_decide_eq_false f
      ·exact hi7 j hj (by omega)
    ·have hl2 : l = k := by omega
     subst hl2
     rw [sel_end]
     refine hn5 h fun i hi2 j hj hik => ?_
     by_cases hik2 : i = l
     ·subst hik2; exact hi7 j hj hj
     ·exact hi i hi2 j hj (by omega)
   ·have hk' : k = (valsC c vs).length := by omega
    subst hk'
    rw [sel_end, decide_eq_true (p := (valsC c vs).Nodup) (zCo.1 fun i hi2 j hj => hi i hi2 j hj hi2)]
  ·have e := of_decide_eq_true e
   obtain ⟨h2, h1⟩ := hf.element e
   have x0 : at' .int (valsC c vs) 0 = (valsC c vs)[0]'(by omega) := atN (t := .int) (by omega)
   have x1 : at' .int (valsC c vs) 1 = (valsC c vs)[1]'(by omega) := atN (t := .int) (by omega)
   have ht : trueC c vs = (decide ((0 : Int) ≤ (valsC c vs)[0]'(by omega)) && decide ((valsC c vs)[0]'(by omega) < c.consts.length) && decide (c.consts.getD ((valsC c vs)[0]'(by omega)).toNat 0 = (valsC c vs)[1]'(by omega))) := by
    rw [← hx (k := 0) (by omega), ← hx (k := 1) (by omega)]; simp [trueC, e]
   have i0 : inb 0 (valsC c vs).length = true := inb_nat (k := 0) (by omega)
   have i1 : inb 1 (valsC c vs).length = true := inb_nat (k := 1) (by omega)
   refine up0 (I := fun n v => znh c _ (valsC c vs) n v) 0 c.consts.length rfl (Nat.zero_le _) (by omega) (fun k => ∀ j : Nat, j < k → (valsC c vs)[0]'(by omega) ≠ (j : Int)) (fun j h => absurd h (Nat.not_lt_zero _)) fun n9 k _ hk hi hn9 => ?_
   rw [zNu, x0, x1]
   by_cases h : k < c.consts.length
   ·rw [sel_lt h, at_nat (t := .int) h]
    refine ⟨i0, za (fun f => ⟨inb_nat h, i1, ?_⟩) fun f => hn9 h fun j hj => ?_⟩
    ·have f := of_decide_eq_true f
     rw [ht, f, Int.toNat_natCast, getD_at _ h, decide_eq_true (p := (0 : Int) ≤ _) (by omega), decide_eq_true (p := (k : Int) < _) (by omega)]; rfl
    ·by_cases hjk : j = k
     ·subst hjk; exact of_decide_eq_false f
     ·exact hi j (by omega)
   ·have hk' : k = c.consts.length := by omega
    subst hk'
    rw [sel_end, ht]
    by_cases g : (0 : Int) ≤ (valsC c vs)[0]'(by omega)
    ·have : ¬(valsC c vs)[0]'(by omega) < (c.consts.length : Int) := fun g2 => hi ((valsC c vs)[0]'(by omega)).toNat (by omega) (by omega)
     rw [decide_eq_false (p := _ < (c.consts.length : Int)) this, Bool.and_false]; rfl
    ·rw [decide_eq_false (p := (0 : Int) ≤ _) g]; rfl
  ·have e := of_decide_eq_true e
   have ht : trueC c vs = c.rows.any fun r => decide (r = valsC c vs) := by simp [trueC, e]
   rw [ht]
   refine any0 (I := fun n v => zoh c _ (valsC c vs) n v) c.rows (fun r => decide (r = valsC c vs)) (by omega) (X := dB true = dB (c.rows.any fun r => decide (r = valsC c vs))) (Y := dB false = dB (c.rows.any fun r => decide (r = valsC c vs))) anyB (fun n k h hX hn => ?_) fun n hY => ?_
   ·rw [zHm, sel_lt h, at_nat (t := .list .int) h]
    exact ⟨inb_nat h, call1 (zSh _ _) (za hX hn)⟩
   ·rw [zHm, sel_end]; exact hY
  ·have e := of_decide_eq_true e
   have h3 := hf.times e
   have n0 := hnear _ (List.getElem_mem (show 0 < (valsC c vs).length by omega))
   have n1 := hnear _ (List.getElem_mem (show 1 < (valsC c vs).length by omega))
   have := zve (a := (valsC c vs)[0]) (b := (valsC c vs)[1]) (by omega) n1
   rw [atN (t := .int) (k := 0) (by omega), atN (t := .int) (k := 1) (by omega), atN (t := .int) (k := 2) (by omega), w64_eq (by omega) (by omega), show trueC c vs = decide ((valsC c vs).getD 0 0 * (valsC c vs).getD 1 0 = (valsC c vs).getD 2 0) by simp [trueC, e], hx (k := 0) (by omega), hx (k := 1) (by omega), hx (k := 2) (by omega)]
   exact ⟨inb_nat (k := 0) (by omega), inb_nat (k := 1) (by omega), inb_nat (k := 2) (by omega), rfl⟩
  ·have e := of_decide_eq_true e
   have h2 := hf.max e
   have x0 : at' .int (valsC c vs) 0 = (valsC c vs)[0]'(by omega) := atN (t := .int) (by omega)
   have i0 : inb 0 (valsC c vs).length = true := inb_nat (k := 0) (by omega)
   have hd : 1 ≤ ((valsC c vs).drop 1).length := by rw [List.length_drop]; omega
   have hm1 : (valsC c vs)[1]'(by omega) ∈ (valsC c vs).drop 1 := by
    have : ((valsC c vs).drop 1)[0]'(by omega) = (valsC c vs)[1]'(by omega) := by rw [List.getElem_drop]
    rw [← this]; exact List.getElem_mem _
   have ht : trueC c vs = decide ((∀ y ∈ (valsC c vs).drop 1, y ≤ (valsC c vs)[0]'(by omega)) ∧ (valsC c vs)[0]'(by omega) ∈ (valsC c vs).drop 1) := by
    rw [show trueC c vs = decide ((valsC c vs).getD 0 0 = maxL ((valsC c vs).getD 1 0) ((valsC c vs).drop 1)) by simp [trueC, e], hx (k := 0) (by omega), hx (k := 1) (by omega)]
    exact decide_eq_decide.2 (max_iff hm1)
   rw [ht]
   refine up (I := fun n v a => zee _ (valsC c vs) n a v) 1 (valsC c vs).length rfl (by omega) (by omega) (fun k a => (∀ i (hi : i < (valsC c vs).length), 1 ≤ i → i < k → (valsC c vs)[i] ≤ (valsC c vs)[0]'(by omega)) ∧ (a = true ↔ ∃ i, ∃ hi : i < (valsC c vs).length, 1 ≤ i ∧ i < k ∧ (valsC c vs)[i] = (valsC c vs)[0]'(by omega))) ⟨fun i _ h1 h2 => by omega, ⟨fun h => absurd h (by decide), fun ⟨i, _, h1, h2, _⟩ => by omega⟩⟩ fun n13 k a hk1 hk ha hn13 => ?_
   obtain ⟨ha1, ha2⟩ := ha
   rw [zOu, x0]
   have mem : ∀ i (hi : i < (valsC c vs).length), 1 ≤ i → (valsC c vs)[i] ∈ (valsC c vs).drop 1 := fun i hi h1 => by
    have : ((valsC c vs).drop 1)[i - 1]'(by rw [List.length_drop]; omega) = (valsC c vs)[i] := by rw [List.getElem_drop]; congr 1; omega
    rw [← this]; exact List.getElem_mem _
   by_cases h : k < (valsC c vs).length
   ·rw [sel_lt h, at_nat (t := .int) h]
    refine ⟨inb_nat h, i0, za (fun f => ?_) fun f => ?_⟩
    ·have f : (valsC c vs)[0]'(by omega) < (valsC c vs)[k] := of_decide_eq_true f
     rw [decide_eq_false fun x => Int.not_le.2 f (x.1 _ (mem k h hk1))]
    ·have f : ¬(valsC c vs)[0]'(by omega) < (valsC c vs)[k] := of_decide_eq_false f
     have hall : ∀ i (hi : i < (valsC c vs).length), 1 ≤ i → i < k + 1 → (valsC c vs)[i] ≤ (valsC c vs)[0]'(by omega) := fun i hi h1 h2 => by
      by_cases hik : i = k
      ·subst hik; exact Int.not_lt.1 f
      ·exact ha1 i hi h1 (by omega)
     refine za (fun g => hn13 h _ ⟨hall, ?_⟩) fun g => ⟨inb_nat h, i0, hn13 h _ ⟨hall, ?_⟩⟩
     ·obtain ⟨i, hi, h1, h2, h3⟩ := ha2.1 g
      exact ⟨fun _ => ⟨i, hi, h1, by omega, h3⟩, fun _ => rfl⟩
     ·rw [decide_eq_true_iff]
      constructor
      ·exact fun e => ⟨k, h, hk1, by omega, e⟩
      ·rintro ⟨i, hi, h1, h2, h3⟩
       by_cases hik : i = k
       ·subst hik; exact h3
       ·rw [ha2.2 ⟨i, hi, h1, by omega, h3⟩] at g; exact absurd g (by decide)
   ·have hk' : k = (valsC c vs).length := by omega
    subst hk'
    rw [sel_end]
    congr 1
    rw [Bool.eq_iff_iff, ha2, decide_eq_true_iff]
    constructor
    ·rintro ⟨i, hi, h1, h2, h3⟩
     refine ⟨fun y hy => ?_, h3 ▸ mem i hi h1⟩
     obtain ⟨j, hj, rfl⟩ := List.getElem_of_mem hy
     rw [List.length_drop] at hj
     rw [List.getElem_drop]
     exact ha1 (1 + j) (by omega) (by omega) (by omega)
    ·rintro ⟨h1, h2⟩
     obtain ⟨j, hj, e⟩ := List.getElem_of_mem h2
     rw [List.length_drop] at hj
     rw [List.getElem_drop] at e
     exact ⟨1 + j, by omega, by omega, by omega, e⟩
  ·have e := of_decide_eq_true e
   rw [show trueC c vs = c.lits.any fun l => holdsL l (vs.getD l.var.toNat 0) by simp [trueC, e]]
   refine any0 (I := fun n v => zph c vs _ n v) c.lits (fun l => holdsL l (vs.getD l.var.toNat 0)) (by omega) (X := dB true = dB (c.lits.any fun l => holdsL l (vs.getD l.var.toNat 0))) (Y := dB false = dB (c.lits.any fun l => holdsL l (vs.getD l.var.toNat 0))) anyB (fun n k h hX hn => ?_) fun n hY => ?_
   ·have hl := zJ.1 (hc.lits _ (List.getElem_mem h))
    rw [zIm, sel_lt h, at_nat (t := .lit) h]
    exact ⟨inb_nat h, inb_nat h, inb_iff.2 (by rw [hv.len]; exact hl.1), call1 (zte _ _ (zQb.2 hl.2.1)) (za hX hn)⟩
   ·rw [zIm, sel_end]; exact hY
  ·have e : c.kind = 10 := by simp at e4 e5 e6 e7 e8 e9; omega
   obtain ⟨h1, h2⟩ := hf.iff e
   have hl0 : 0 < c.lits.length := by omega
   have hl := zJ.1 (hc.lits _ (List.getElem_mem hl0))
   have ha : (c.lits.take 1).any (fun l => holdsL l (vs.getD l.var.toNat 0)) = holdsL c.lits[0] (vs.getD c.lits[0].var.toNat 0) := by
    rw [show c.lits.take 1 = [c.lits[0]] by rw [List.take_one, List.head?_eq_getElem?, List.getElem?_eq_getElem hl0]; rfl]; simp
   have ht : trueC c vs = (holdsL c.lits[0] (vs.getD c.lits[0].var.toNat 0) && decide ((valsC c vs)[0]'(by omega) = 1) || !holdsL c.lits[0] (vs.getD c.lits[0].var.toNat 0) && decide ((valsC c vs)[0]'(by omega) = 0)) := by
    rw [← hx (k := 0) (by omega), ← ha]; simp [trueC, e]
   have i0 : inb 0 c.lits.length = true := inb_nat (k := 0) hl0
   have i1 : inb 0 (valsC c vs).length = true := inb_nat (k := 0) (by omega)
   rw [atN (t := .lit) hl0, atN (t := .int) (k := 0) (show 0 < (valsC c vs).length by omega), ht]
   refine ⟨i0, i0, inb_iff.2 (by rw [hv.len]; exact hl.1), call1 (zte _ _ (zQb.2 hl.2.1)) (za (fun f => ⟨i1, ?_⟩) fun f => ⟨i1, ?_⟩)⟩
   ·rw [show holdsL c.lits[0] (vs.getD c.lits[0].var.toNat 0) = true from f]; simp
   ·rw [show holdsL c.lits[0] (vs.getD c.lits[0].var.toNat 0) = false from f]; simp
theorem zQy {m : MdlD} (hr : Right m) {vs : List Int} (hl : vs.length = m.vars.length) : Sat Tryz.prog zUb [dM m, .sl .int vs] (dB (wholeM m vs)) :=
 ztu m vs fun ok => by
  have hv := hr.vars
  have hcs := hr.cons
  have hz : (m.vars.zip vs).length = m.vars.length := by rw [List.length_zip]; omega
  rw [zsu]
  refine any1 (I := fun n v => zah m vs _ n v) (m.vars.zip vs) (fun x => !inR x.2 x.1.lo x.1.hi) (by omega) (X := dB false = dB (wholeM m vs)) (fun e => by rw [wholeM, e]; rfl) (fun n k h hX hn => ?_) fun e n => ?_
  ·have hk : k < m.vars.length := by omega
   have hk2 : k < vs.length := by omega
   rw [List.getElem_zip] at hX hn
   rw [zwm, sel_lt hk, at_nat (t := .var) hk, at_nat (t := .int) hk2]
   exact ⟨inb_nat hk2, inb_nat hk, inb_nat hk, call1 (zab _ _ _) (za hX hn)⟩
  ·rw [hz, zwm, sel_end]
   refine any0 (I := fun n v => z9g m vs _ n v) m.cons (fun c => !trueC c vs) (by omega) (X := dB false = dB (wholeM m vs)) (Y := dB true = dB (wholeM m vs)) (by rw [wholeM, e]; cases m.cons.any fun c => !trueC c vs <;> rfl) (fun n k h hX hn => ?_) fun n hY => ?_
   ·rw [zvm, sel_lt h, at_nat (t := .con) h]
    exact ⟨inb_nat h, call1 (z3j (zzj hr.vars (hr.con _ (List.getElem_mem h))) (zOn hr hl e)) (za hX hn)⟩
   ·rw [zvm, sel_end]; exact hY
end Go.Proofs.YtajnbkhgnppckaaGreatDoor
