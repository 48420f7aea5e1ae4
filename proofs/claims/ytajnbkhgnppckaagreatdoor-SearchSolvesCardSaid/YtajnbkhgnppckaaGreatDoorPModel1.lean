/- What it means that a constraint holds of values, and that the program tells it. -/
import Derived.Test.YtajnbkhgnppckaaGreatDoorPLit2
import Derived.Test.YtajnbkhgnppckaaGreatDoorWModel
namespace Go.Proofs.YtajnbkhgnppckaaGreatDoor
open Go.RowKit
set_option linter.unusedVariables false
set_option linter.unusedSimpArgs false
def valsC (c : ConD) (vs : List Int) : List Int := c.vars.map fun v => vs.getD v.toNat 0
def sumZ (z : List (Int × Int)) : Int := (z.map fun x => x.1 * x.2).sum
def maxL (a : Int) (l : List Int) : Int := l.foldl (fun a x => if x > a then x else a) a
def trueC (c : ConD) (vs : List Int) : Bool :=
 let x := valsC c vs
 if c.kind = 1 then decide (sumZ (c.consts.zip x) ≤ c.n)
 else if c.kind = 2 then decide (sumZ (c.consts.zip x) = c.n)
 else if c.kind = 3 then !decide (sumZ (c.consts.zip x) = c.n)
 else if c.kind = 4 then decide x.Nodup
 else if c.kind = 5 then decide (0 ≤ x.getD 0 0) && decide (x.getD 0 0 < c.consts.length) && decide (c.consts.getD (x.getD 0 0).toNat 0 = x.getD 1 0)
 else if c.kind = 6 then c.rows.any fun r => decide (r = x)
 else if c.kind = 7 then decide (x.getD 0 0 * x.getD 1 0 = x.getD 2 0)
 else if c.kind = 8 then decide (x.getD 0 0 = maxL (x.getD 1 0) (x.drop 1))
 else if c.kind = 9 then c.lits.any fun l => holdsL l (vs.getD l.var.toNat 0)
 else (c.lits.take 1).any (fun l => holdsL l (vs.getD l.var.toNat 0)) && decide (x.getD 0 0 = 1) || !(c.lits.take 1).any (fun l => holdsL l (vs.getD l.var.toNat 0)) && decide (x.getD 0 0 = 0)
structure RightC (c : ConD) (nv : Nat) : Prop where
 nv6 : nv ≤ 6
 kind : 1 ≤ c.kind ∧ c.kind ≤ 10
 many : c.vars.length ≤ 4 ∧ c.lits.length ≤ 4 ∧ c.consts.length ≤ 8 ∧ c.rows.length ≤ 20
 form : formB c = true
 vars : ∀ v ∈ c.vars, 0 ≤ v ∧ v < nv
 consts : ∀ n ∈ c.consts, -1000 ≤ n ∧ n ≤ 1000
 n : -1000 ≤ c.n ∧ c.n ≤ 1000
 rows : ∀ r ∈ c.rows, ∀ n ∈ r, -1000 ≤ n ∧ n ≤ 1000
 lits : ∀ l ∈ c.lits, litE nv l = 0
theorem zzj {nv : Nat} {c : ConD} (hnv : nv ≤ 6) (h : conE nv c = 0) : RightC c nv := by
 by_cases h1 : inR c.kind 1 10 = false
 ·rw [conE_1 h1] at h; exact absurd h (by decide)
 by_cases h2 : manyB c = true
 ·rw [conE_2 h1 h2] at h; exact absurd h (by decide)
 by_cases h3 : formB c = false
 ·rw [conE_3 h1 h2 h3] at h; exact absurd h (by decide)
 by_cases h4 : (c.vars.any (noneB nv) || c.lits.any fun l => noneB nv l.var) = true
 ·rw [conE_4 h1 h2 h3 h4] at h; exact absurd h (by decide)
 by_cases h5 : (c.consts.any farB || farB c.n || c.rows.any fun r => r.any farB) = true
 ·rw [conE_5 h1 h2 h3 h4 h5] at h; exact absurd h (by decide)
 rw [conE_6 h1 h2 h3 h4 h5] at h
 rw [Bool.not_eq_true, Bool.or_eq_false_iff] at h4
 rw [Bool.not_eq_true, Bool.or_eq_false_iff, Bool.or_eq_false_iff] at h5
 have hfar : ∀ n, farB n = false → -1000 ≤ n ∧ n ≤ 1000 := fun n h => by simp [farB, inR] at h; exact h
 have hnone : ∀ v, noneB nv v = false → 0 ≤ v ∧ v < nv := fun v h => by simp [noneB, inR] at h; omega
 refine ⟨hnv, ?_, ?_, by simpa using h3, fun v hv => hnone v ?_, fun n hn => hfar n ?_, hfar _ h5.1.2, fun r hr n hn => hfar n ?_, fun l hl => ?_⟩
 ·rw [zQ] at h1; omega
 ·simp [manyB] at h2; omega
 ·have := List.any_eq_false.1 h4.1 v hv; simpa using this
 ·have := List.any_eq_false.1 h5.1.1 n hn; simpa using this
 ·have := List.any_eq_false.1 h5.2 r hr
  rw [Bool.not_eq_true] at this
  have := List.any_eq_false.1 this n hn; simpa using this
 ·obtain ⟨i, hi, rfl⟩ := List.getElem_of_mem hl
  have e := zEc h hi
  rw [litE_op]
  ·exact e
  ·have := List.any_eq_false.1 h4.2 _ (List.getElem_mem hi); simpa using this
structure FormC (c : ConD) : Prop where
 sums : c.kind ≤ 3 → 1 ≤ c.vars.length ∧ c.consts.length = c.vars.length
 differ : c.kind = 4 → 1 ≤ c.vars.length
 element : c.kind = 5 → c.vars.length = 2 ∧ 1 ≤ c.consts.length
 table : c.kind = 6 → 1 ≤ c.vars.length ∧ ∀ r ∈ c.rows, r.length = c.vars.length
 times : c.kind = 7 → c.vars.length = 3
 max : c.kind = 8 → 2 ≤ c.vars.length
 clause : c.kind = 9 → c.vars.length = 0
 iff : c.kind = 10 → c.vars.length = 1 ∧ c.lits.length = 1
theorem RightC.formC {c : ConD} {nv : Nat} (h : RightC c nv) : FormC c := by
 have hf := h.form
 obtain ⟨h1, h2⟩ := h.kind
 constructor <;> intro hk
 ·have : c.kind = 1 ∨ c.kind = 2 ∨ c.kind = 3 := by omega
  rcases this with e | e | e <;> simp [formB, e] at hf <;> omega
 all_goals simp [formB, hk] at hf
 all_goals first | omega | (simp_all; done) | (simp_all; omega)
structure GoodV (vs : List Int) (nv : Nat) : Prop where
 len : vs.length = nv
 near : ∀ n ∈ vs, -50 ≤ n ∧ n ≤ 50
theorem GoodV.at {vs : List Int} {nv : Nat} (h : GoodV vs nv) (i : Nat) : -50 ≤ vs.getD i 0 ∧ vs.getD i 0 ≤ 50 := by
 by_cases hi : i < vs.length
 ·rw [getD_at _ hi]; exact h.near _ (List.getElem_mem hi)
 ·rw [List.getD_eq_getElem?_getD, List.getElem?_eq_none (by omega)]; decide
theorem zcc {c : ConD} {vs : List Int} : (valsC c vs).length = c.vars.length := List.length_map ..
theorem zXh {c : ConD} {vs : List Int} {nv : Nat} (h : GoodV vs nv) : ∀ n ∈ valsC c vs, -50 ≤ n ∧ n ≤ 50 := fun n hn => by
 obtain ⟨v, _, rfl⟩ := List.mem_map.1 hn
 exact h.at _
theorem zmd {c : ConD} {vs : List Int} {k : Nat} (hk : k < c.vars.length) : (valsC c vs)[k]'(by rw [zcc]; exact hk) = vs.getD c.vars[k].toNat 0 := by simp [valsC]
theorem zve {a b : Int} (h1 : -1000 ≤ a ∧ a ≤ 1000) (h2 : -50 ≤ b ∧ b ≤ 50) : -50000 ≤ a * b ∧ a * b ≤ 50000 := by
 have : (a * b).natAbs ≤ 1000 * 50 := by rw [Int.natAbs_mul]; exact Nat.mul_le_mul (by omega) (by omega)
 omega
theorem zwn {z : List (Int × Int)} (h : ∀ x ∈ z, (-1000 ≤ x.1 ∧ x.1 ≤ 1000) ∧ -50 ≤ x.2 ∧ x.2 ≤ 50) : -50000 * (z.length : Int) ≤ sumZ z ∧ sumZ z ≤ 50000 * (z.length : Int) := by
 induction z with
 | nil => exact ⟨by decide, by decide⟩
 | cons x z ih =>
  have h1 := ih fun y hy => h y (List.mem_cons_of_mem _ hy)
  have h2 := h x (List.mem_cons_self ..)
  have h3 := zve h2.1 h2.2
  have e : sumZ (x :: z) = x.1 * x.2 + sumZ z := by rw [sumZ, List.map_cons, List.sum_cons]; rfl
  rw [e, List.length_cons]
  omega
theorem zxn {z : List (Int × Int)} {k : Nat} (h : k < z.length) : sumZ (z.take (k + 1)) = sumZ (z.take k) + z[k].1 * z[k].2 := by
 rw [← List.take_append_getElem h, sumZ, List.map_append, List.sum_append]; simp [sumZ]
theorem zbb {c : ConD} {vs : List Int} {nv : Nat} (hc : RightC c nv) (hv : GoodV vs nv) {k : Nat} (hk : k < c.vars.length) : Sat Tryz.prog zg [dI k, .iptr [.sl .int vs] 0, .iptr [.int .i64 c.kind, .sl .int c.vars, .sl .int c.consts, .int .i64 c.n, .sl (.list .int) c.rows, .sl .lit c.lits] 0] (dI ((valsC c vs)[k]'(by rw [zcc]; exact hk))) :=
 z7t k vs c fun ok => by
  have hv1 := hc.vars _ (List.getElem_mem hk)
  rw [z6t, at_nat (t := .int) hk, zmd hk]
  exact ⟨inb_nat hk, inb_iff.2 (by rw [hv.len]; omega), rfl⟩
theorem zyn {l : LitD} {vs : List Int} {nv : Nat} (hl : litE nv l = 0) (hv : GoodV vs nv) : Sat Tryz.prog zDb [dL l, .iptr [.sl .int vs] 0] (dB (holdsL l (vs.getD l.var.toNat 0))) :=
 z9t l vs fun ok => by
  rw [z8t]
  exact ⟨inb_iff.2 (by rw [hv.len]; exact (zJ.1 hl).1), call1 (zse l _) rfl⟩
theorem zzn (c : ConD) (n : Int) : Sat Tryz.prog z5b [dC c, dI n] (dB (if c.kind = 1 then decide (n ≤ c.n) else if c.kind = 2 then decide (n = c.n) else !decide (n = c.n))) :=
 zdu c n fun ok => by
  rw [zcu]
  refine za (fun e1 => ?_) fun e1 => za (fun e2 => ?_) fun e2 => ?_ <;> simp at * <;> simp [*]
theorem zAn (a b : List Int) : Sat Tryz.prog zhb [.sl .int a, .sl .int b] (dB (decide (a = b))) :=
 zUs a b fun ok => by
  have hl : a.length ≤ 9223372036854775807 := okLen (t := .int) (ok1 ok)
  rw [zTs]
  refine za (fun e => ?_) fun e => ?_
  ·rw [decide_eq_false (p := a = b) fun h => by subst h; simp at e]
  have e : a.length = b.length := by simp at e; omega
  have hz : (a.zip b).length = a.length := by rw [List.length_zip]; omega
  refine any0 (I := fun n v => zzg a b _ n v) (a.zip b) (fun x => !decide (x.1 = x.2)) (by omega) (X := dB false = dB (decide (a = b))) (Y := dB true = dB (decide (a = b))) (by rw [zid a b e]; cases decide (a = b) <;> rfl) (fun n k h hX hn => ?_) fun n hY => ?_
  ·have hk : k < a.length := by omega
   rw [List.getElem_zip] at hX hn
   rw [zMl, sel_lt hk, at_nat (t := .int) hk, at_nat (t := .int) (show k < b.length by omega)]
   exact ⟨inb_nat hk, inb_nat (by omega), za hX hn⟩
  ·rw [hz, zMl, sel_end]; exact hY
theorem zDx (r x : List Int) : Sat Tryz.prog zTf [.sl .int r, .iptr [.sl .int x] 0] (dB (decide (r = x))) :=
 zfu r x fun ok => by rw [zeu]; exact call1 (zAn r x) rfl
theorem zBn {x y : Int} : ∀ (m : List (Int × Int)), (mput .int .int x y m).map (fun e => e.1) = if x ∈ m.map (fun e => e.1) then m.map (fun e => e.1) else m.map (fun e => e.1) ++ [x]
 | [] => rfl
 | (a, b) :: m => by
  rw [mput, show keq .int x a = decide (x = a) from rfl]
  by_cases h : x = a
  ·rw [decide_eq_true h, cond_true, if_pos (by rw [h]; exact List.mem_cons_self ..)]; rfl
  ·rw [decide_eq_false h, cond_false, List.map_cons, zBn m]
   simp only [List.map_cons, List.mem_cons, h, false_or]
   split <;> rfl
def keysOf : List Int → List Int → List Int
 | ks, [] => ks
 | ks, x :: xs => keysOf (if x ∈ ks then ks else ks ++ [x]) xs
theorem zEx {l : List Int} {k : Nat} (h : k < l.length) : ∀ ks, keysOf ks (l.take (k + 1)) = if l[k] ∈ keysOf ks (l.take k) then keysOf ks (l.take k) else keysOf ks (l.take k) ++ [l[k]] := by
 induction l generalizing k with
 | nil => exact absurd h (Nat.not_lt_zero _)
 | cons a l ih =>
  intro ks
  cases k with
  | zero => rfl
  | succ k => rw [List.take_succ_cons, List.take_succ_cons, keysOf, keysOf]; exact ih (by simpa using h) _
theorem zYh : ∀ (xs ks : List Int), (keysOf ks xs).length ≤ ks.length + xs.length
 | [], ks => by simp [keysOf]
 | x :: xs, ks => by
  rw [keysOf]
  have := zYh xs (if x ∈ ks then ks else ks ++ [x])
  rw [List.length_cons]
  split at this <;> simp at this ⊢ <;> simp_all <;> omega
theorem zCn : ∀ (xs ks : List Int), (keysOf ks xs).length = ks.length + xs.length ↔ xs.Nodup ∧ ∀ x ∈ xs, x ∉ ks
 | [], ks => by simp [keysOf]
 | x :: xs, ks => by
  rw [keysOf, List.nodup_cons, List.length_cons]
  by_cases h : x ∈ ks
  ·rw [if_pos h]
   have := zYh xs ks
   exact ⟨fun e => by omega, fun e => absurd h (e.2 x (List.mem_cons_self ..))⟩
  ·rw [if_neg h]
   have ih := zCn xs (ks ++ [x])
   rw [List.length_append, List.length_cons, List.length_nil] at ih
   rw [show ks.length + (xs.length + 1) = ks.length + (0 + 1) + xs.length by omega, ih]
   simp only [List.mem_append, List.mem_cons, List.not_mem_nil, or_false]
   constructor
   ·rintro ⟨h1, h2⟩
    exact ⟨⟨fun hx => h2 x hx (.inr rfl), h1⟩, fun y hy => by
     rcases hy with rfl | hy
     ·exact h
     ·exact fun hk => h2 y hy (.inl hk)⟩
   ·rintro ⟨⟨h1, h2⟩, h3⟩
    exact ⟨h2, fun y hy hk => by
     rcases hk with hk | rfl
     ·exact h3 y (.inr hy) hk
     ·exact h1 hy⟩
end Go.Proofs.YtajnbkhgnppckaaGreatDoor
