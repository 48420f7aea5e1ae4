/- Maps as lists of entries, lists without repeats, and how a matching is found: plain laws, no program in sight. -/
import Derived.Test.YtogdmcebojiojaaGreatDoorMD
namespace Go.Proofs.YtogdmcebojiojaaGreatDoor
set_option linter.unusedVariables false
set_option linter.unusedSimpArgs false

/-! ### Maps -/
def LKey (kt : Ty) : Prop := ∀ a b : kt.den, keq kt a b = true ↔ a = b
theorem lkey_int : LKey .int := fun a b => decide_eq_true_iff
section
variable {kt vt : Ty}
theorem keq_self (hk : LKey kt) (x : kt.den) : keq kt x x = true := (hk x x).2 rfl
theorem keq_ne (hk : LKey kt) {x y : kt.den} (h : x ≠ y) : keq kt x y = false := by
  cases e : keq kt x y
  · rfl
  · exact absurd ((hk x y).1 e) h
theorem mget_same (hk : LKey kt) {x : kt.den} {y : vt.den} : ∀ es : List (kt.den × vt.den), mget kt vt x (mput kt vt x y es) = some y
  | [] => by rw [mput, mget, keq_self hk]; rfl
  | (a, b) :: es => by
    rw [mput]
    cases e : keq kt x a
    · rw [cond_false, mget, e, cond_false]; exact mget_same hk es
    · rw [cond_true, mget, e]; rfl
theorem mget_other (hk : LKey kt) {x z : kt.den} {y : vt.den} (h : z ≠ x) : ∀ es : List (kt.den × vt.den), mget kt vt z (mput kt vt x y es) = mget kt vt z es
  | [] => by rw [mput, mget, mget, keq_ne hk h]; rfl
  | (a, b) :: es => by
    rw [mput]
    cases e : keq kt x a
    · rw [cond_false, mget, mget]
      cases keq kt z a
      · rw [cond_false, cond_false]; exact mget_other hk h es
      · rfl
    · have := (hk x a).1 e
      subst this
      rw [cond_true, mget, mget, keq_ne hk h, cond_false, cond_false]
theorem mput_new (hk : LKey kt) {x : kt.den} {y : vt.den} : ∀ es : List (kt.den × vt.den), mget kt vt x es = none → mput kt vt x y es = es ++ [(x, y)]
  | [], _ => rfl
  | (a, b) :: es, h => by
    rw [mget] at h
    cases e : keq kt x a
    · rw [e, cond_false] at h
      rw [mput, e, cond_false, mput_new hk es h]; rfl
    · rw [e] at h; cases h
theorem mput_keysame (hk : LKey kt) {x : kt.den} {y k : vt.den} : ∀ es : List (kt.den × vt.den), mget kt vt x es = some k → (mput kt vt x y es).map Prod.fst = es.map Prod.fst
  | [], h => by cases h
  | (a, b) :: es, h => by
    rw [mget] at h
    cases e : keq kt x a
    · rw [e, cond_false] at h
      rw [mput, e, cond_false, List.map_cons, List.map_cons, mput_keysame hk es h]
    · rw [mput, e, cond_true]; rfl
theorem mget_key (hk : LKey kt) {x : kt.den} : ∀ es : List (kt.den × vt.den), x ∈ es.map Prod.fst ↔ ∃ k, mget kt vt x es = some k
  | [] => ⟨fun h => (by cases h), fun ⟨k, h⟩ => (by cases h)⟩
  | (a, b) :: es => by
    rw [List.map_cons, List.mem_cons, mget]
    cases e : keq kt x a
    · rw [cond_false]
      have hn : x ≠ a := fun h => by subst h; rw [keq_self hk] at e; cases e
      exact ⟨fun h => (mget_key hk es).1 (h.resolve_left hn), fun h => .inr ((mget_key hk es).2 h)⟩
    · exact ⟨fun _ => ⟨b, rfl⟩, fun _ => .inl ((hk x a).1 e)⟩
theorem mput_nodup (hk : LKey kt) {x : kt.den} {y : vt.den} {es : List (kt.den × vt.den)} (h : (es.map Prod.fst).Nodup) : ((mput kt vt x y es).map Prod.fst).Nodup := by
  cases e : mget kt vt x es with
  | none =>
    rw [mput_new hk es e, List.map_append, List.nodup_append]
    refine ⟨h, by simp, fun a ha b hb => ?_⟩
    rintro rfl
    obtain rfl : a = x := by simpa using hb
    obtain ⟨k, h2⟩ := (mget_key hk es).1 ha
    rw [e] at h2; cases h2
  | some k => rw [mput_keysame hk es e]; exact h
theorem mput_mem (hk : LKey kt) {x z : kt.den} {y : vt.den} (es : List (kt.den × vt.den)) : z ∈ (mput kt vt x y es).map Prod.fst ↔ z = x ∨ z ∈ es.map Prod.fst := by
  rw [mget_key hk, mget_key hk]
  constructor
  · rintro ⟨k, h⟩
    apply Classical.byContradiction
    intro hn
    rw [mget_other hk (fun e => hn (.inl e))] at h
    exact hn (.inr ⟨k, h⟩)
  · rintro (rfl | ⟨k, h⟩)
    · exact ⟨y, mget_same hk es⟩
    · apply Classical.byContradiction
      intro hn
      by_cases e : z = x
      · subst e; exact hn ⟨y, mget_same hk es⟩
      · exact hn ⟨k, by rw [mget_other hk e]; exact h⟩
end

/-! ### Lists without repeats -/
theorem getD_at' {α : Type} {t : List α} {k : Nat} (d : α) (h : k < t.length) : t.getD k d = t[k] := by rw [List.getD_eq_getElem?_getD, List.getElem?_eq_getElem h]; rfl
theorem upZ_mem {lo : Int} : ∀ {n : Nat} {k : Int}, k ∈ (List.range n).map (fun i : Nat => lo + i) ↔ lo ≤ k ∧ k < lo + n := fun {n k} => by
  rw [List.mem_map]
  constructor
  · rintro ⟨i, hi, rfl⟩; have := List.mem_range.1 hi; omega
  · rintro ⟨h1, h2⟩; exact ⟨(k - lo).toNat, List.mem_range.2 (by omega), by omega⟩
theorem nodup_near {l : List Int} (h : l.Nodup) {lo : Int} {n : Nat} (hl : ∀ x ∈ l, lo ≤ x ∧ x < lo + n) : l.length ≤ n := by
  have := h.length_le_of_subset (l₂ := (List.range n).map fun i : Nat => lo + i) fun x hx => upZ_mem.2 (hl x hx)
  rwa [List.length_map, List.length_range] at this
/-! ### A matching: which variable has a value; which values were asked in a turn -/
abbrev KV := List (Int × Int)
section
variable {x y z k : Int} {m : KV}
theorem getSame : mget .int .int x (mput .int .int x y m) = some y := mget_same (kt := .int) (vt := .int) lkey_int m
theorem getOther (h : z ≠ x) : mget .int .int z (mput .int .int x y m) = mget .int .int z m := mget_other (kt := .int) (vt := .int) lkey_int h m
theorem getKey : x ∈ m.map Prod.fst ↔ ∃ k, mget .int .int x m = some k := mget_key (kt := .int) (vt := .int) lkey_int m
theorem putNodup (h : (m.map Prod.fst).Nodup) : ((mput .int .int x y m).map Prod.fst).Nodup := mput_nodup (kt := .int) (vt := .int) lkey_int h
theorem putMem : z ∈ (mput .int .int x y m).map Prod.fst ↔ z = x ∨ z ∈ m.map Prod.fst := mput_mem (kt := .int) (vt := .int) lkey_int m
end
def Ask (turn : Int) (a : KV) (n : Int) : Prop := mgetD .int .int n a = turn
structure AskOk (turn : Int) (a : KV) : Prop where
  nodup : (a.map Prod.fst).Nodup
  near : ∀ n ∈ a.map Prod.fst, -50 ≤ n ∧ n ≤ 50
  turns : ∀ n t : Int, mget .int .int n a = some t → 1 ≤ t ∧ t ≤ turn
structure ByOk (rows : List (List Int)) (m : KV) : Prop where
  nodup : (m.map Prod.fst).Nodup
  ok : ∀ n k : Int, mget .int .int n m = some k → 0 ≤ k ∧ k < rows.length ∧ n ∈ rows.getD k.toNat []
def left (turn : Int) (a : KV) : Nat := ((List.range 101).map fun i : Nat => (-50 : Int) + i).countP fun n => !decide (mgetD .int .int n a = turn)
instance {turn n : Int} {a : KV} : Decidable (Ask turn a n) := inferInstanceAs (Decidable (_ = _))
theorem AskOk.put {turn n : Int} {a : KV} (h : AskOk turn a) (hn : -50 ≤ n ∧ n ≤ 50) (ht : 1 ≤ turn) : AskOk turn (mput .int .int n turn a) := by
  refine ⟨putNodup h.nodup, fun x hx => ?_, fun x t hx => ?_⟩
  · rcases putMem.1 hx with rfl | hx
    · exact hn
    · exact h.near x hx
  · by_cases e : x = n
    · subst e; rw [getSame] at hx; cases hx; omega
    · rw [getOther e] at hx; exact h.turns x t hx
theorem AskOk.length {turn : Int} {a : KV} (h : AskOk turn a) : a.length ≤ 101 := by
  have := nodup_near h.nodup (lo := -50) (n := 101) fun x hx => by have := h.near x hx; omega
  rwa [List.length_map] at this
theorem AskOk.later {turn : Int} {a : KV} (h : AskOk turn a) {t : Int} (ht : turn ≤ t) : AskOk t a := ⟨h.nodup, h.near, fun n k e => by have := h.turns n k e; omega⟩
theorem ByOk.length {rows : List (List Int)} {m : KV} (h : ByOk rows m) (hr : ∀ r ∈ rows, ∀ n ∈ r, -50 ≤ n ∧ n ≤ 50) : m.length ≤ 101 := by
  have := nodup_near h.nodup (lo := -50) (n := 101) fun x hx => by
    obtain ⟨k, hk⟩ := getKey.1 hx
    obtain ⟨h1, h2, h3⟩ := h.ok x k hk
    have hl : k.toNat < rows.length := by omega
    rw [getD_at' _ hl] at h3
    have := hr _ (List.getElem_mem hl) x h3
    omega
  rwa [List.length_map] at this
/-- A value was found for variable i. -/
structure Found (rows : List (List Int)) (turn i : Int) (m a m' a' : KV) : Prop where
  ok : ByOk rows m'
  ask : AskOk turn a'
  vals : (m'.map Prod.snd).Perm (i :: m.map Prod.snd)
  same : ∀ n : Int, Ask turn a n → mget .int .int n m' = mget .int .int n m
/-- Some values were asked, and none of them can be had. -/
structure Tried (rows : List (List Int)) (turn : Int) (m a : KV) (pre : List Int) (a' : KV) : Prop where
  ask : AskOk turn a'
  more : ∀ n, Ask turn a n → Ask turn a' n
  row : ∀ n ∈ pre, Ask turn a' n
  closed : ∀ n, Ask turn a' n → Ask turn a n ∨ ∃ k : Int, mget .int .int n m = some k ∧ ∀ x ∈ rows.getD k.toNat [], Ask turn a' x
section
variable {rows : List (List Int)} {turn i k n : Int} {m a a1 a2 m2 : KV} {pre : List Int}
theorem ByOk.put (h : ByOk rows m) (hi : 0 ≤ i ∧ i < rows.length ∧ n ∈ rows.getD i.toNat []) : ByOk rows (mput .int .int n i m) := by
  refine ⟨putNodup h.nodup, fun x k hx => ?_⟩
  by_cases e : x = n
  · subst e; rw [getSame] at hx; cases hx; exact hi
  · rw [getOther e] at hx; exact h.ok x k hx
end
end Go.Proofs.YtogdmcebojiojaaGreatDoor
