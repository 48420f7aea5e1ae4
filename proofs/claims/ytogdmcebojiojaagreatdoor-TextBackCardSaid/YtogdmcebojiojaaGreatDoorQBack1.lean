/- A text of known tokens is scanned back: plain laws. -/
import Derived.Test.YtogdmcebojiojaaGreatDoorMR
import Derived.Test.YtogdmcebojiojaaGreatDoorMC
namespace Go.Proofs.YtogdmcebojiojaaGreatDoor
open Go.RowKit
set_option linter.unusedVariables false
set_option linter.unusedSimpArgs false

/-- A token to be, and the blanks behind it. -/
structure Pc where
  k : Nat
  w : List UInt8
  sep : List UInt8
def nw : List UInt8 → Bool
  | [] => true
  | c :: _ => !isW c
def byt (ps : List Pc) : List UInt8 := ps.flatMap fun p => p.w ++ p.sep
structure POk (p : Pc) : Prop where
  sep : ∀ c ∈ p.sep, blank c = true
  ne : p.w ≠ []
  tok : ∀ r, (p.k = 3 ∨ nw r = true) → tokenAt (p.w ++ r) = (p.k, p.w.length)
  bad : tokBad p.k p.w.length (p.w.headD 0) = 0
  kind : p.k ≠ 0
def GoodP : List Pc → List UInt8 → Prop
  | [], _ => True
  | p :: ps, r => POk p ∧ (p.k = 3 ∨ nw (p.sep ++ (byt ps ++ r)) = true) ∧ GoodP ps r
theorem byt_cons (p : Pc) (ps : List Pc) : byt (p :: ps) = p.w ++ (p.sep ++ byt ps) := by unfold byt; rw [List.flatMap_cons, List.append_assoc]
theorem byt_app (a b : List Pc) : byt (a ++ b) = byt a ++ byt b := by unfold byt; rw [List.flatMap_append]
theorem goodP_app : ∀ {a b : List Pc} {r : List UInt8}, GoodP a (byt b ++ r) → GoodP b r → GoodP (a ++ b) r
  | [], _, _, _, hb => hb
  | p :: a, b, r, ⟨h1, h2, h3⟩, hb => by
    refine ⟨h1, ?_, goodP_app h3 hb⟩
    show p.k = 3 ∨ nw (p.sep ++ (byt (a ++ b) ++ r)) = true
    rw [byt_app, List.append_assoc (byt a)]; exact h2
def toksP : Nat → List Pc → List Tok
  | _, [] => []
  | i, p :: ps => ⟨p.k, i, bs p.w⟩ :: toksP (i + p.w.length + p.sep.length) ps
theorem scan_blank : ∀ (s r : List UInt8) (i : Nat) (out : List Tok), (∀ c ∈ s, blank c = true) → scanR (s ++ r) i false out 0 = scanR r (i + s.length) false out 0
  | [], r, i, out, _ => rfl
  | c :: s, r, i, out, h => by
    have hc := h c List.mem_cons_self
    have h37 : (c == 37) = false := by
      cases hb : c == 37 with
      | false => rfl
      | true => rw [eq_of_beq hb] at hc; exact absurd hc (by decide)
    rw [List.cons_append, scanR, if_neg (by rw [h37]; decide), if_pos hc, scan_blank s r (i + 1) out fun x hx => h x (List.mem_cons_of_mem _ hx)]
    congr 1; rw [List.length_cons]; omega
theorem scan_good : ∀ (ps : List Pc) (i : Nat) (out : List Tok), GoodP ps [] → scanR (byt ps) i false out 0 = (out ++ toksP i ps, 0, 0)
  | [], i, out, _ => by
    show scanR [] i false out 0 = _
    rw [scanR, toksP, List.append_nil]
  | p :: ps, i, out, ⟨hp, hn, h⟩ => by
    obtain ⟨hsep, hne, htok, hbad, hk⟩ := hp
    obtain ⟨k, w, sep⟩ := p
    cases w with
    | nil => exact absurd rfl hne
    | cons c w =>
      have ht : tokenAt ((c :: w) ++ (sep ++ byt ps)) = (k, (c :: w).length) := htok _ (by rw [List.append_nil] at hn; exact hn)
      rw [List.cons_append] at ht
      obtain ⟨h37, hb⟩ := tokenAt_ne (c := c) (r := w ++ (sep ++ byt ps)) (by rw [ht]; exact hk)
      have h37' : (c == 37) = false := by simpa using h37
      have hbad' : tokBad k (c :: w).length c = 0 := hbad
      rw [byt_cons]
      show scanR ((c :: w) ++ (sep ++ byt ps)) i false out 0 = _
      rw [List.cons_append, scanR, if_neg (by rw [h37']; decide), if_neg (by rw [hb]; decide), ht]
      simp only
      rw [if_pos hbad', scanR_skip _ _ _ _ _ (by rw [List.length_append, List.length_cons]; omega), List.length_cons, Nat.add_sub_cancel, List.drop_left, scan_blank _ _ _ _ hsep, scan_good ps _ _ h, toksP]
      rw [List.take_succ_cons, List.take_left, List.append_assoc]
      simp only [List.length_cons, List.cons_append, List.nil_append]
      rw [show i + 1 + w.length + sep.length = i + (w.length + 1) + sep.length by omega]
theorem scanS_good {ps : List Pc} (h : GoodP ps []) (hl : (byt ps).length ≤ 4000) : scanS (byt ps) = (toksP 0 ps, 0, 0) := by
  unfold scanS
  rw [if_neg (by omega), scan_good ps 0 [] h]; rfl
/-! ### Which pieces are tokens -/
theorem tw_all {f : UInt8 → Bool} : ∀ (w r : List UInt8), (∀ c ∈ w, f c = true) → (∀ c s, r = c :: s → f c = false) → (w ++ r).takeWhile f = w
  | [], r, _, h2 => by
    cases r with
    | nil => rfl
    | cons c s => rw [List.nil_append, List.takeWhile_cons, h2 c s rfl]; rfl
  | c :: w, r, h1, h2 => by
    rw [List.cons_append, List.takeWhile_cons, h1 c List.mem_cons_self, if_pos rfl, tw_all w r (fun x hx => h1 x (List.mem_cons_of_mem _ hx)) h2]
theorem nw_w {r : List UInt8} (h : nw r = true) : ∀ c s, r = c :: s → isW c = false := fun c s e => by
  subst e
  show isW c = false
  simpa [nw] using h
theorem pok_word {w sep : List UInt8} {c : UInt8} {v : List UInt8} (e : w = c :: v) (hc : isL c = true) (hv : ∀ x ∈ v, isW x = true) (hl : w.length ≤ 12) (hs : ∀ c ∈ sep, blank c = true) : POk ⟨1, w, sep⟩ := by
  subst e
  refine ⟨hs, by simp, fun r hr => ?_, ?_, by simp⟩
  · have hr : nw r = true := hr.resolve_left (fun h => absurd h (by simp))
    show tokenAt (c :: (v ++ r)) = (1, v.length + 1)
    rw [tokenAt, if_pos hc, tw_all v r hv (nw_w hr), Nat.add_comm]
  · show tokBad 1 _ _ = 0
    unfold tokBad
    have hl : (c :: v).length ≤ 12 := hl
    rw [if_neg (by decide), if_neg (by intro h; rcases h with ⟨_, h⟩ | ⟨h, _⟩ <;> simp at h hl <;> omega), if_neg (by intro h; omega)]
theorem pok_num {w sep : List UInt8} {c : UInt8} {v : List UInt8} (e : w = c :: v) (hc : isD c = true) (hv : ∀ x ∈ v, isD x = true) (hl : w.length ≤ 4) (h0 : 1 < w.length → c ≠ 48) (hs : ∀ c ∈ sep, blank c = true) : POk ⟨2, w, sep⟩ := by
  subst e
  refine ⟨hs, by simp, fun r hr => ?_, ?_, by simp⟩
  · have hr : nw r = true := hr.resolve_left (fun h => absurd h (by simp))
    show tokenAt (c :: (v ++ r)) = (2, v.length + 1)
    have hL : isL c = false := by
      unfold isD isDN at hc; unfold isL isLN
      simp only [Bool.and_eq_true, decide_eq_true_eq] at hc
      simp only [Bool.and_eq_false_iff, decide_eq_false_iff_not]; omega
    rw [tokenAt, if_neg (by rw [hL]; decide), if_pos hc, tw_all v r hv (fun c s e => by have := nw_w hr c s e; unfold isW at this; rw [Bool.or_eq_false_iff] at this; exact this.2), Nat.add_comm]
  · show tokBad 2 _ _ = 0
    unfold tokBad
    have hl : (c :: v).length ≤ 4 := hl
    rw [if_neg (by decide), if_neg (by intro h; rcases h with ⟨h, _⟩ | ⟨_, h⟩ <;> simp at h hl <;> omega), if_neg (by rintro ⟨_, h1, h2⟩; exact h0 h1 h2)]
theorem pok_sign {c : UInt8} {sep : List UInt8} (h : isSign c = true) (hs : ∀ c ∈ sep, blank c = true) : POk ⟨3, [c], sep⟩ := by
  have hc : c = 91 ∨ c = 93 ∨ c = 59 ∨ c = 58 ∨ c = 44 ∨ c = 45 := by
    unfold isSign at h
    simp only [Bool.or_eq_true, beq_iff_eq] at h
    rcases h with ((((h | h) | h) | h) | h) | h <;> simp [h]
  refine ⟨hs, by simp, fun r hr => ?_, ?_, by simp⟩
  · show tokenAt (c :: r) = (3, 1)
    have hL : isL c = false := by rcases hc with rfl | rfl | rfl | rfl | rfl | rfl <;> decide
    have hD : isD c = false := by rcases hc with rfl | rfl | rfl | rfl | rfl | rfl <;> decide
    have hT : isTwo (c :: r) = false := by
      cases r with
      | nil => rfl
      | cons d r => rcases hc with rfl | rfl | rfl | rfl | rfl | rfl <;> rfl
    rw [tokenAt, if_neg (by rw [hL]; decide), if_neg (by rw [hD]; decide), if_neg (by rw [hT]; decide), if_pos h]
  · show tokBad 3 1 c = 0
    unfold tokBad
    rw [if_neg (by decide), if_neg (by intro h; rcases h with ⟨h, _⟩ | ⟨h, _⟩ <;> cases h), if_neg (by rintro ⟨h, _⟩; cases h)]
theorem pok_two {a b : UInt8} {sep : List UInt8} (h : isTwo [a, b] = true) (hs : ∀ c ∈ sep, blank c = true) : POk ⟨3, [a, b], sep⟩ := by
  have hc : a = 46 ∨ a = 60 ∨ a = 62 ∨ a = 61 ∨ a = 33 := by
    unfold isTwo at h
    simp only [Bool.or_eq_true, Bool.and_eq_true, beq_iff_eq] at h
    rcases h with (((h | h) | h) | h) | h <;> simp [h.1]
  refine ⟨hs, by simp, fun r hr => ?_, ?_, by simp⟩
  · show tokenAt (a :: b :: r) = (3, 2)
    have hL : isL a = false := by rcases hc with rfl | rfl | rfl | rfl | rfl <;> decide
    have hD : isD a = false := by rcases hc with rfl | rfl | rfl | rfl | rfl <;> decide
    rw [tokenAt, if_neg (by rw [hL]; decide), if_neg (by rw [hD]; decide), if_pos (show isTwo (a :: b :: r) = true from h)]
  · show tokBad 3 2 a = 0
    unfold tokBad
    rw [if_neg (by decide), if_neg (by intro h; rcases h with ⟨h, _⟩ | ⟨h, _⟩ <;> cases h), if_neg (by rintro ⟨h, _⟩; cases h)]
/-! ### Numerals of up to four digits -/
def dg (n : Nat) : UInt8 := UInt8.ofNat (48 + n)
def digs (n : Nat) : List UInt8 := if n < 10 then [dg n] else if n < 100 then [dg (n / 10), dg (n % 10)] else if n < 1000 then [dg (n / 100), dg (n / 10 % 10), dg (n % 10)] else [dg (n / 1000), dg (n / 100 % 10), dg (n / 10 % 10), dg (n % 10)]
def digsOk (n : Nat) : Bool := (digs n).all isD && decide (digs n ≠ []) && decide ((digs n).length ≤ 4) && (decide ((digs n).length ≤ 1) || (digs n).headD 0 != 48) && decide (Lib.atoi (digs n) = some (n : Int)) && (decide (n = 0) || digs n != [48])
theorem digsOk_all : ∀ n, n < 1001 → digsOk n = true := by decide +kernel
theorem digs_eq {n : Nat} (h : n < 10000) : Lib.decDigits n = digs n := by
  have one : ∀ {k : Nat}, k < 10 → Lib.decDigits k = [dg k] := fun h => Lib.decDigits_one h
  have step : ∀ {k : Nat}, ¬ k < 10 → Lib.decDigits k = Lib.decDigits (k / 10) ++ [dg (k % 10)] := fun h => by rw [Lib.decDigits, dif_neg h]; rfl
  unfold digs
  split
  · rename_i h1; exact one h1
  · split
    · rw [step (by omega), one (by omega)]; rfl
    · split
      · rw [step (by omega), step (by omega), one (by omega), Nat.div_div_eq_div_mul]; rfl
      · rw [step (by omega), step (by omega), step (by omega), one (by omega), show n / 10 / 10 / 10 = n / 1000 by omega, show n / 10 / 10 % 10 = n / 100 % 10 by omega]; rfl
end Go.Proofs.YtogdmcebojiojaaGreatDoor
