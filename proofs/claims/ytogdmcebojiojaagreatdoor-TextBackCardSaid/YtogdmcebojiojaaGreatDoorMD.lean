/- Texts of this proof, one behind the other: nothing is handed in but what is proved here; no condition. -/
import Derived.Test.YtogdmcebojiojaaGreatDoorMB
import Derived.Test.YtogdmcebojiojaaGreatDoorMC
/- Loops that count up, what is sought in a slice, and functions handed on: laws for the equations that a program prints. -/
namespace Go.Proofs.YtogdmcebojiojaaGreatDoor
open Go.RowKit
set_option linter.unusedVariables false

/-! ### Short names for data -/
abbrev dM (m : MdlD) : D := .agg [.sl .var m.vars, .sl .con m.cons, .int .i64 m.goal, .int .i64 m.var]
abbrev dV (v : VarD) : D := .agg [.str v.name, .int .i64 v.lo, .int .i64 v.hi]
abbrev dL (l : LitD) : D := .agg [.int .i64 l.var, .int .i64 l.op, .int .i64 l.n]
abbrev dC (c : ConD) : D := .agg [.int .i64 c.kind, .sl .int c.vars, .sl .int c.consts, .int .i64 c.n, .sl (.list .int) c.rows, .sl .lit c.lits]
abbrev dS (s : List (List Int)) : D := .sl (.list .int) s
abbrev dI (n : Int) : D := .int .i64 n
abbrev dB (b : Bool) : D := .bool b
theorem w64_eq {n : Int} (h1 : -9223372036854775808 ≤ n) (h2 : n ≤ 9223372036854775807) : w64 n = n := by
  show IntKind.i64.wrap n = n
  rw [IntKind.wrap_i64]; omega
theorem w64_up {k : Nat} (h : k < 9223372036854775807) : w64 ((k : Int) + 1) = ((k + 1 : Nat) : Int) := by
  rw [w64_eq (by omega) (by omega)]; rfl
theorem inb_nat {k n : Nat} (h : k < n) : inb (k : Int) n = true := by
  unfold inb; rw [Bool.and_eq_true]; exact ⟨decide_eq_true (by omega), decide_eq_true (by omega)⟩
theorem inb_iff {k : Int} {n : Nat} : inb k n = true ↔ 0 ≤ k ∧ k < n := by
  unfold inb; rw [Bool.and_eq_true, decide_eq_true_iff, decide_eq_true_iff]
theorem room_of {t : Ty} {n : Nat} (h : n * t.bytes ≤ 140737488355328) : room t n = true := decide_eq_true h
theorem lt_nat {k n : Nat} : decide ((k : Int) < (n : Int)) = decide (k < n) := by
  by_cases h : k < n
  · rw [decide_eq_true h]; exact decide_eq_true (by omega)
  · rw [decide_eq_false h]; exact decide_eq_false (by omega)
theorem at_nat {t : Ty} {xs : List t.den} {k : Nat} (h : k < xs.length) : at' t xs (k : Int).toNat = xs[k] := by
  show xs.getD ((k : Int).toNat) _ = _
  rw [Int.toNat_natCast, List.getD_eq_getElem?_getD, List.getElem?_eq_getElem h]; rfl
theorem atN {t : Ty} {xs : List t.den} {k : Nat} (h : k < xs.length) : at' t xs k = xs[k] := by
  show xs.getD k _ = _
  rw [List.getD_eq_getElem?_getD, List.getElem?_eq_getElem h]; rfl

theorem up {α : Type} {I : Nat → Int → α → Prop} {v : Int} (s m : Nat) (hv : v = (s : Int)) (hsm : s ≤ m) (hm : m ≤ 9223372036854775807) (Inv : Nat → α → Prop) {a : α} (h0 : Inv s a)
    (hs : ∀ n (k : Nat) a, s ≤ k → k ≤ m → Inv k a → (k < m → ∀ a', Inv (k + 1) a' → I n (w64 ((k : Int) + 1)) a') → I (n + 1) (k : Int) a) : ∃ n, I n v a := by
  subst hv
  suffices H : ∀ d k, s ≤ k → k + d = m → ∀ a, Inv k a → I (d + 1) (k : Int) a from ⟨m - s + 1, H (m - s) s (Nat.le_refl _) (by omega) a h0⟩
  intro d
  induction d with
  | zero => exact fun k hk e a ha => hs 0 k a hk (by omega) ha fun h => absurd h (by omega)
  | succ d ih =>
    intro k hk e a ha
    refine hs (d + 1) k a hk (by omega) ha fun h a' ha' => ?_
    rw [w64_up (by omega)]
    exact ih (k + 1) (by omega) (by omega) a' ha'
theorem up0 {I : Nat → Int → Prop} {v : Int} (s m : Nat) (hv : v = (s : Int)) (hsm : s ≤ m) (hm : m ≤ 9223372036854775807) (Inv : Nat → Prop) (h0 : Inv s)
    (hs : ∀ n (k : Nat), s ≤ k → k ≤ m → Inv k → (k < m → Inv (k + 1) → I n (w64 ((k : Int) + 1))) → I (n + 1) (k : Int)) : ∃ n, I n v :=
  let ⟨n, h⟩ := up (I := fun n v (_ : Unit) => I n v) (a := ()) s m hv hsm hm (fun k _ => Inv k) h0 fun n k _ h1 h2 h3 h4 => hs n k h1 h2 h3 fun h h' => h4 h () h'
  ⟨n, h⟩

/-! ### Functions handed on -/
theorem Sat.like {P : Program} {f : FuncId} {args args' : List D} {r : D} (h : Sat P f args r) (hl : args'.length = args.length) (ha : ∀ (w : World) (S : Nat → Prop) (i : Nat) (d : D) (v : Value), args[i]? = some d → (∀ d', args'[i]? = some d' → Rp w S v d') → Rp w S v d) : Sat P f args' r :=
  fun w S vs hS hs hv hg => h w S vs hS (hs.trans hl) (fun i d hd => ha w S i d _ hd fun d' hd' => hv i d' hd') hg
theorem Rp.clo_rs {w : World} {S : Nat → Prop} {v : Value} {g : FuncId} {rs rs' : Option (List Ty)} {cap : List D} (h : Rp w S v (.clo g rs cap)) : Rp w S v (.clo g rs' cap) := by
  obtain ⟨vs, rfl, h1, h2⟩ := h.clo_inv
  exact .clo g rs' cap vs h1 h2
theorem Sat.clo {P : Program} {f : FuncId} {pre post : List D} {g : FuncId} {rs rs' : Option (List Ty)} {cap : List D} {r : D} (h : Sat P f (pre ++ .clo g rs cap :: post) r) : Sat P f (pre ++ .clo g rs' cap :: post) r := by
  refine h.like (by simp) fun w S i d v hd hv => ?_
  by_cases hi : i < pre.length
  · rw [List.getElem?_append_left hi] at hd
    exact hv d (by rw [List.getElem?_append_left hi]; exact hd)
  · have hi' : pre.length ≤ i := Nat.le_of_not_lt hi
    rw [List.getElem?_append_right hi'] at hd
    have hv' : ∀ d', (D.clo g rs' cap :: post)[i - pre.length]? = some d' → Rp w S v d' := fun d' h' => hv d' (by rw [List.getElem?_append_right hi']; exact h')
    generalize i - pre.length = j at hd hv'
    cases j with
    | zero =>
      rw [List.getElem?_cons_zero] at hd
      cases hd
      exact (hv' _ rfl).clo_rs
    | succ j => exact hv' d (by rw [List.getElem?_cons_succ] at hd ⊢; exact hd)

/-! ### What is sought in a slice -/
def ixI {α : Type} (p : α → Bool) : List α → Int → Int
  | [], _ => -1
  | x :: xs, i => bif p x then i else ixI p xs (i + 1)
theorem ixI_drop {α : Type} {p : α → Bool} {xs : List α} {k : Nat} (h : k < xs.length) : ixI p (xs.drop k) k = bif p xs[k] then (k : Int) else ixI p (xs.drop (k + 1)) ((k + 1 : Nat) : Int) := by
  rw [List.drop_eq_getElem_cons h]; rfl
theorem ixI_nonneg {α : Type} {p : α → Bool} : ∀ (xs : List α) (i : Int), 0 ≤ i → decide (0 ≤ ixI p xs i) = xs.any p
  | [], i, h => by simp [ixI]
  | x :: xs, i, h => by
    rw [ixI, List.any_cons]
    cases hx : p x
    · rw [cond_false, ixI_nonneg xs (i + 1) (by omega), Bool.false_or]
    · rw [cond_true, Bool.true_or]; exact decide_eq_true h
theorem seek {t : Ty} {xs : List t.den} (hl : xs.length ≤ 9223372036854775807) {I : Nat → Int → Prop} {R : D → Prop} {p : t.den → Bool}
    (hR : R (.int .i64 (ixI p xs 0)))
    (hin : ∀ n (k : Nat) (h : k < xs.length), (p xs[k] = true → R (.int .i64 (k : Int))) → (p xs[k] = false → I n (w64 ((k : Int) + 1))) → I (n + 1) (k : Int))
    (hout : ∀ n, R (.int .i64 (-1)) → I (n + 1) (xs.length : Int)) : ∃ n, I n 0 := by
  refine up0 0 xs.length rfl (Nat.zero_le _) hl (fun k => R (.int .i64 (ixI p (xs.drop k) (k : Int)))) hR fun n k _ hk hi hn => ?_
  by_cases h : k < xs.length
  · rw [ixI_drop h] at hi
    refine hin n k h (fun e => ?_) fun e => hn h ?_
    · rw [e] at hi; exact hi
    · rw [e] at hi; exact hi
  · rw [List.drop_eq_nil_of_le (by omega)] at hi
    have hk' : k = xs.length := by omega
    subst hk'
    exact hout n hi
theorem sel_lt {k n : Nat} {X Y : Prop} (h : k < n) : sel (decide ((k : Int) < (n : Int))) X Y = X := by rw [lt_nat, decide_eq_true h]; rfl
theorem sel_end {n : Nat} {X Y : Prop} : sel (decide ((n : Int) < (n : Int))) X Y = Y := by rw [lt_nat, decide_eq_false (Nat.lt_irrefl n)]; rfl
theorem any_drop {β : Type} {p : β → Bool} {zs : List β} {k : Nat} (h : k < zs.length) : (zs.drop k).any p = (p zs[k] || (zs.drop (k + 1)).any p) := by
  rw [List.drop_eq_getElem_cons h, List.any_cons]
/-- A loop that leaves at the first element of which something holds. -/
theorem anyUp {β : Type} {I : Nat → Int → Prop} {v : Int} (s : Nat) (zs : List β) (p : β → Bool) (hv : v = (s : Int)) (hl : zs.length + s ≤ 9223372036854775807) {X Y : Prop} (hXY : sel (zs.any p) X Y)
    (hin : ∀ n (k : Nat) (h : k < zs.length), (p zs[k] = true → X) → (p zs[k] = false → I n (w64 (((k + s : Nat) : Int) + 1))) → I (n + 1) ((k + s : Nat) : Int))
    (hout : ∀ n, Y → I (n + 1) ((zs.length + s : Nat) : Int)) : ∃ n, I n v := by
  refine up0 s (zs.length + s) hv (by omega) hl (fun k => sel ((zs.drop (k - s)).any p) X Y) (by rw [Nat.sub_self]; exact hXY) fun n k hs hk hi hn => ?_
  obtain ⟨j, rfl⟩ : ∃ j, k = j + s := ⟨k - s, by omega⟩
  rw [show j + s - s = j by omega] at hi
  by_cases h : j < zs.length
  · rw [any_drop h] at hi
    refine hin n j h (fun e => ?_) fun e => hn (by omega) ?_
    · rw [e, Bool.true_or] at hi; exact hi
    · rw [e, Bool.false_or] at hi; rw [show j + s + 1 - s = j + 1 by omega]; exact hi
  · have hj : j = zs.length := by omega
    subst hj
    rw [List.drop_eq_nil_of_le (by omega)] at hi
    exact hout n hi
/-- A loop that leaves with the first error. -/
theorem errUp {β : Type} {I : Nat → Int → Prop} {v : Int} (s : Nat) (zs : List β) (e : Nat → β → Int) (hv : v = (s : Int)) (hl : zs.length + s ≤ 9223372036854775807) {X : Int → Prop} {Y : Prop}
    (hX : firstE e 0 zs ≠ 0 → X (firstE e 0 zs)) (hY : firstE e 0 zs = 0 → Y)
    (hin : ∀ n (k : Nat) (h : k < zs.length), (∀ j (hj : j < k), e j zs[j] = 0) → (e k zs[k] ≠ 0 → X (e k zs[k])) → (e k zs[k] = 0 → I n (w64 (((k + s : Nat) : Int) + 1))) → I (n + 1) ((k + s : Nat) : Int))
    (hout : ∀ n, Y → I (n + 1) ((zs.length + s : Nat) : Int)) : ∃ n, I n v := by
  refine up0 s (zs.length + s) hv (by omega) hl (fun k => firstE e (k - s) (zs.drop (k - s)) = firstE e 0 zs ∧ ∀ j (hj : j < k - s) (hl : j < zs.length), e j zs[j] = 0) ⟨by rw [Nat.sub_self]; rfl, fun j hj => absurd hj (by omega)⟩ fun n k hs hk hi hn => ?_
  obtain ⟨j, rfl⟩ : ∃ j, k = j + s := ⟨k - s, by omega⟩
  rw [show j + s - s = j by omega] at hi
  obtain ⟨hi, hb⟩ := hi
  by_cases h : j < zs.length
  · refine hin n j h (fun i hi => hb i hi (by omega)) (fun e0 => ?_) fun e0 => hn (by omega) ?_
    · have := firstE_stop h hi e0
      rw [← this]; exact hX (by rw [this]; exact e0)
    · rw [show j + s + 1 - s = j + 1 by omega]
      refine ⟨firstE_next h hi e0, fun i hi1 hi2 => ?_⟩
      by_cases hij : i < j
      · exact hb i hij hi2
      · have : i = j := by omega
        subst this; exact e0
  · have hj : j = zs.length := by omega
    subst hj
    exact hout n (hY (firstE_end (Nat.le_refl _) hi))
/-- A loop over a range of numbers. -/
theorem upto {α : Type} {I : Nat → Int → α → Prop} (lo hi : Int) (hlo : -9223372036854775808 ≤ lo) (hhi : hi < 9223372036854775807) (Inv : Int → α → Prop) {a : α} (h0 : Inv lo a)
    (hs : ∀ n (k : Int) a, lo ≤ k → Inv k a → (k ≤ hi → ∀ a', Inv (k + 1) a' → I n (w64 (k + 1)) a') → I (n + 1) k a) : ∃ n, I n lo a := by
  suffices H : ∀ d (k : Int), lo ≤ k → (hi + 1 - k).toNat ≤ d → ∀ a, Inv k a → I (d + 1) k a from ⟨(hi + 1 - lo).toNat + 1, H _ lo (Int.le_refl _) (Nat.le_refl _) a h0⟩
  intro d
  induction d with
  | zero => exact fun k hk e a ha => hs 0 k a hk ha fun h => absurd h (by omega)
  | succ d ih =>
    intro k hk e a ha
    refine hs (d + 1) k a hk ha fun h a' ha' => ?_
    rw [w64_eq (by omega) (by omega)]
    exact ih (k + 1) (by omega) (by omega) a' ha'
theorem map_take {α β : Type} (f : α → β) {xs : List α} {k : Nat} (h : k < xs.length) : (xs.take (k + 1)).map f = (xs.take k).map f ++ [f xs[k]] := by
  rw [← List.take_append_getElem h, List.map_append]; rfl
theorem okLen {t : Ty} {xs : List t.den} (h : okD (.sl t xs)) : xs.length ≤ 9223372036854775807 := by
  have h1 : xs.length * t.bytes ≤ 140737488355328 := (show okT (.list t) xs from h).1
  have h2 : 1 ≤ t.bytes := t.bytes_pos
  have := Nat.mul_le_mul_left xs.length h2
  omega
/-- A fact of each of some data. -/
theorem ok1 {d : D} {ds : List D} (h : ∀ e ∈ d :: ds, okD e) : okD d := h d (List.mem_cons_self ..)
end Go.Proofs.YtogdmcebojiojaaGreatDoor

/- Loops from 0 on, and small tactics for the equations that a program prints. -/
namespace Go.Proofs.YtogdmcebojiojaaGreatDoor
open Go.RowKit
set_option linter.unusedVariables false

theorem any0 {β : Type} {I : Nat → Int → Prop} (zs : List β) (p : β → Bool) (hl : zs.length ≤ 9223372036854775807) {X Y : Prop} (hXY : sel (zs.any p) X Y)
    (hin : ∀ n (k : Nat) (h : k < zs.length), (p zs[k] = true → X) → (p zs[k] = false → I n (w64 ((k : Int) + 1))) → I (n + 1) (k : Int))
    (hout : ∀ n, Y → I (n + 1) (zs.length : Int)) : ∃ n, I n 0 :=
  anyUp (I := I) 0 zs p rfl hl hXY (fun n k h h1 h2 => hin n k h h1 h2) hout
/-- A loop that leaves at the first element of which something holds; behind it: what comes where it holds of none. -/
theorem any1 {β : Type} {I : Nat → Int → Prop} (zs : List β) (p : β → Bool) (hl : zs.length ≤ 9223372036854775807) {X : Prop} (hX : zs.any p = true → X)
    (hin : ∀ n (k : Nat) (h : k < zs.length), (p zs[k] = true → X) → (p zs[k] = false → I n (w64 ((k : Int) + 1))) → I (n + 1) (k : Int))
    (hout : zs.any p = false → ∀ n, I (n + 1) (zs.length : Int)) : ∃ n, I n 0 :=
  any0 (I := I) zs p hl (Y := zs.any p = false) (sel_intro hX id) hin fun n h => hout h n
theorem err0 {β : Type} {I : Nat → Int → Prop} (zs : List β) (e : Nat → β → Int) (hl : zs.length ≤ 9223372036854775807) {X : Int → Prop} {Y : Prop}
    (hX : firstE e 0 zs ≠ 0 → X (firstE e 0 zs)) (hY : firstE e 0 zs = 0 → Y)
    (hin : ∀ n (k : Nat) (h : k < zs.length), (∀ j (hj : j < k), e j zs[j] = 0) → (e k zs[k] ≠ 0 → X (e k zs[k])) → (e k zs[k] = 0 → I n (w64 ((k : Int) + 1))) → I (n + 1) (k : Int))
    (hout : ∀ n, Y → I (n + 1) (zs.length : Int)) : ∃ n, I n 0 :=
  errUp (I := I) 0 zs e rfl hl hX hY (fun n k h h0 h1 h2 => hin n k h h0 h1 h2) hout
theorem ne0_true {a : Int} (e : (!decide (a = 0)) = true) : a ≠ 0 := by simpa using e
theorem ne0_false {a : Int} (e : (!decide (a = 0)) = false) : a = 0 := by simpa using e
theorem Sat.swap {P : Program} {f : FuncId} {pre post : List D} {a a' : D} {r : D} (h : Sat P f (pre ++ a :: post) r) (ha : ∀ w S v, Rp w S v a' → Rp w S v a) : Sat P f (pre ++ a' :: post) r := by
  refine h.like (by simp) fun w S i d v hd hv => ?_
  by_cases hi : i < pre.length
  · rw [List.getElem?_append_left hi] at hd
    exact hv d (by rw [List.getElem?_append_left hi]; exact hd)
  · have hi' : pre.length ≤ i := Nat.le_of_not_lt hi
    rw [List.getElem?_append_right hi'] at hd
    have hv' : ∀ d', (a' :: post)[i - pre.length]? = some d' → Rp w S v d' := fun d' h' => hv d' (by rw [List.getElem?_append_right hi']; exact h')
    generalize i - pre.length = j at hd hv'
    cases j with
    | zero =>
      rw [List.getElem?_cons_zero] at hd
      cases hd
      exact ha _ _ _ (hv' _ rfl)
    | succ j => exact hv' d (by rw [List.getElem?_cons_succ] at hd ⊢; exact hd)
theorem Rp.icl {w : World} {S : Nat → Prop} {v : Value} {g : FuncId} {rs rs' : Option (List Ty)} {cap : List D} (h : Rp w S v (.iptr [.clo g rs cap] 0)) : Rp w S v (.iptr [.clo g rs' cap] 0) := by
  obtain ⟨b, rfl, hb, hc⟩ := h.iptr_inv
  refine .iptr_mk hb fun i d hd => ?_
  cases i with
  | zero =>
    cases hd
    obtain ⟨u, hu, hr⟩ := hc 0 _ rfl
    exact ⟨u, hu, hr.clo_rs⟩
  | succ i => simp at hd
theorem Sat.iclo {P : Program} {f : FuncId} {pre post : List D} {g : FuncId} {rs rs' : Option (List Ty)} {cap : List D} {r : D} (h : Sat P f (pre ++ .iptr [.clo g rs cap] 0 :: post) r) : Sat P f (pre ++ .iptr [.clo g rs' cap] 0 :: post) r :=
  h.swap fun _ _ _ h => h.icl
theorem okA {cs : List D} {i : Nat} {d : D} (h : okD (.agg cs)) (e : cs[i]? = some d) : okC d := h d (List.mem_of_getElem? e)
theorem okCLen {t : Ty} {xs : List t.den} (h : okC (.sl t xs)) : xs.length ≤ 9223372036854775807 := okLen (t := t) h
end Go.Proofs.YtogdmcebojiojaaGreatDoor
