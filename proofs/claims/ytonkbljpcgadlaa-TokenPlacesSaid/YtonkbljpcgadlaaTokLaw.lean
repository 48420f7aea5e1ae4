/- What a scan gives, in plain Lean. -/
import Derived.Test.YtonkbljpcgadlaaTokSpec
namespace Go.Proofs.Ytonkbljpcgadlaa
set_option linter.unusedVariables false

/-- Tokens that stand in a text L from 'lo' on, one behind the other. -/
def Chain (L : List UInt8) : Nat → List Tok → Prop
  | _, [] => True
  | lo, t :: ts => ∃ j n : Nat, lo ≤ j ∧ 1 ≤ n ∧ j + n ≤ L.length ∧ t.at_ = j ∧ t.text = bs ((L.drop j).take n) ∧ (∃ c r, L.drop j = c :: r ∧ tokenAt (c :: r) = (t.kind.toNat, n) ∧ 0 ≤ t.kind ∧ tokBad t.kind.toNat n c = 0) ∧ Chain L (j + n) ts

theorem Chain.mono {L : List UInt8} : ∀ {ts : List Tok} {lo lo' : Nat}, lo' ≤ lo → Chain L lo ts → Chain L lo' ts
  | [], _, _, _, _ => trivial
  | t :: ts, lo, lo', h, ⟨j, n, h1, h2⟩ => ⟨j, n, by omega, h2⟩

/-- What a scan that goes well adds. -/
theorem scanR_chain (L : List UInt8) : ∀ (l : List UInt8) (i : Nat) (note : Bool) (out : List Tok) (k : Nat), L.drop i = l → k ≤ l.length → (scanR l i note out k).2.2 = 0 →
    ∃ new, (scanR l i note out k).1 = out ++ new ∧ Chain L (i + k) new ∧ (scanR l i note out k).2.1 = 0
  | [], i, note, out, k, hL, hk, h => ⟨[], by simp [scanR], trivial, by simp [scanR]⟩
  | c :: r, i, note, out, k + 1, hL, hk, h => by
    have hr : L.drop (i + 1) = r := by rw [← List.drop_drop, hL]; rfl
    obtain ⟨new, h1, h2, h3⟩ := scanR_chain L r (i + 1) note out k hr (by simpa using hk) h
    exact ⟨new, h1, by rw [show i + (k + 1) = i + 1 + k from by omega]; exact h2, h3⟩
  | c :: r, i, note, out, 0, hL, hk, h => by
    have hr : L.drop (i + 1) = r := by rw [← List.drop_drop, hL]; rfl
    rw [scanR] at h ⊢
    by_cases h1 : (note || c == 37) = true
    · rw [if_pos h1] at h ⊢
      obtain ⟨new, a, b, d⟩ := scanR_chain L r (i + 1) _ out 0 hr (by omega) h
      exact ⟨new, a, b.mono (by omega), d⟩
    · rw [if_neg h1] at h ⊢
      by_cases h2 : blank c = true
      · rw [if_pos h2] at h ⊢
        obtain ⟨new, a, b, d⟩ := scanR_chain L r (i + 1) _ out 0 hr (by omega) h
        exact ⟨new, a, b.mono (by omega), d⟩
      · rw [if_neg h2] at h ⊢
        have hle := tokenAt_le (c :: r)
        have hpos := tokenAt_pos (c :: r)
        cases hta : tokenAt (c :: r) with
        | mk kd n =>
          rw [hta] at h hle hpos
          simp only at h hle hpos ⊢
          by_cases hb : tokBad kd n c = 0
          · rw [if_pos hb] at h ⊢
            have hn : 1 ≤ n := hpos (by rintro rfl; simp [tokBad] at hb)
            obtain ⟨new, a, b, d⟩ := scanR_chain L r (i + 1) _ _ (n - 1) hr (by simp at hle; omega) h
            have hll : L.length = i + (r.length + 1) := by
              have := congrArg List.length hL
              simp at this; omega
            refine ⟨⟨kd, i, bs ((c :: r).take n)⟩ :: new, by rw [a]; simp, ⟨i, n, by omega, hn, by simp at hle; omega, rfl, by rw [hL], ⟨c, r, hL, by simpa using hta, by simp, by simpa using hb⟩, ?_⟩, d⟩
            rw [show i + n = i + 1 + (n - 1) from by omega]; exact b
          · rw [if_neg hb] at h
            exact absurd h hb

theorem scanR_bad (L : List UInt8) : ∀ (l : List UInt8) (i : Nat) (note : Bool) (out : List Tok) (k : Nat), (scanR l i note out k).2.2 ≠ 0 → (scanR l i note out k).1 = []
  | [], i, note, out, k, h => by simp [scanR] at h
  | c :: r, i, note, out, k + 1, h => scanR_bad L r (i + 1) note out k h
  | c :: r, i, note, out, 0, h => by
    rw [scanR] at h ⊢
    by_cases h1 : (note || c == 37) = true
    · rw [if_pos h1] at h ⊢; exact scanR_bad L r _ _ _ _ h
    · rw [if_neg h1] at h ⊢
      by_cases h2 : blank c = true
      · rw [if_pos h2] at h ⊢; exact scanR_bad L r _ _ _ _ h
      · rw [if_neg h2] at h ⊢
        by_cases hb : tokBad (tokenAt (c :: r)).1 (tokenAt (c :: r)).2 c = 0
        · simp only [if_pos hb] at h ⊢; exact scanR_bad L r _ _ _ _ h
        · simp only [if_neg hb]

theorem scanS_bad {l : List UInt8} (h : (scanS l).2.2 ≠ 0) : (scanS l).1 = [] := by
  unfold scanS at h ⊢
  split
  · rfl
  · rename_i hh; rw [if_neg hh] at h; exact scanR_bad l _ _ _ _ _ h
theorem scanS_chain {l : List UInt8} (h : (scanS l).2.2 = 0) : Chain l 0 (scanS l).1 ∧ (scanS l).2.1 = 0 ∧ l.length ≤ 4000 := by
  unfold scanS at h ⊢
  split
  · rename_i hh; rw [if_pos hh] at h; simp at h
  · rename_i hh
    rw [if_neg hh] at h
    obtain ⟨new, a, b, d⟩ := scanR_chain l l 0 false [] 0 rfl (by omega) h
    rw [a]; exact ⟨b, d, by omega⟩

/-- A token's first byte is neither blank nor '%'. -/
theorem tokenAt_ne {c : UInt8} {r : List UInt8} (h : (tokenAt (c :: r)).1 ≠ 0) : c ≠ 37 ∧ blank c = false := by
  have key : ∀ d : UInt8, (d = 37 ∨ d = 32 ∨ d = 9 ∨ d = 10) → c = d → False := by
    intro d hd hc
    apply h
    subst hc
    have h1 : isL c = false := by rcases hd with rfl | rfl | rfl | rfl <;> decide
    have h2 : isD c = false := by rcases hd with rfl | rfl | rfl | rfl <;> decide
    have h3 : isSign c = false := by rcases hd with rfl | rfl | rfl | rfl <;> decide
    have h4 : isTwo (c :: r) = false := by
      cases r with
      | nil => rfl
      | cons a r => rcases hd with rfl | rfl | rfl | rfl <;> simp [isTwo]
    rw [tokenAt, if_neg (by simp [h1]), if_neg (by simp [h2]), if_neg (by simp [h4]), if_neg (by simp [h3])]
  refine ⟨fun e => key 37 (by simp) e, ?_⟩
  cases hb : blank c with
  | false => rfl
  | true =>
    simp only [blank, Bool.or_eq_true, beq_iff_eq] at hb
    rcases hb with (e | e) | e
    · exact (key 32 (by simp) e).elim
    · exact (key 9 (by simp) e).elim
    · exact (key 10 (by simp) e).elim

/-- What 'one' asks. -/
theorem one_iff (kind : Int) (s : ByteArray) : ((scanS s.data.toList).2.2 = 0 ∧ ∃ t, (scanS s.data.toList).1 = [t] ∧ t.kind = kind ∧ t.text = s) ↔ isTok kind s.data.toList = true := by
  constructor
  · rintro ⟨h, t, ht, hk, hx⟩
    obtain ⟨hc, _, hl⟩ := scanS_chain h
    rw [ht] at hc
    obtain ⟨j, n, h0, h1, h2, h3, h4, ⟨c, r, h5, h6, h7, h8⟩, _⟩ := hc
    have hsz : (bs ((s.data.toList.drop j).take n)).data.toList.length = n := by simp [bs]; simp at h2; omega
    rw [← h4, hx] at hsz
    have hj : j = 0 := by omega
    subst hj
    rw [List.drop_zero] at h5
    rw [h5] at h2 hl hsz ⊢
    simp only [isTok, h6]
    simp [h8, ← hk]
    simp at hl hsz
    refine ⟨⟨by omega, ?_⟩, by omega⟩
    omega
  · intro h
    cases hs : s.data.toList with
    | nil => rw [hs] at h; cases h
    | cons c r =>
      rw [hs] at h
      simp only [isTok, Bool.and_eq_true, decide_eq_true_eq] at h
      obtain ⟨⟨⟨h1, h2⟩, h3⟩, h4⟩ := h
      have hk0 : (tokenAt (c :: r)).1 ≠ 0 := by intro e; rw [e] at h4; simp [tokBad] at h4
      obtain ⟨n37, nbl⟩ := tokenAt_ne hk0
      have hsc : scanS (c :: r) = ([⟨kind, 0, s⟩], 0, 0) := by
        unfold scanS
        rw [if_neg (by omega), scanR, if_neg (by simpa using n37), if_neg (by simp [nbl])]
        have h4' : tokBad (tokenAt (c :: r)).1 (c :: r).length c = 0 := by rw [← h3]; exact h4
        simp only [h3, h2]
        rw [if_pos h4']
        rw [scanR_skip r _ _ _ _ (by simp), List.take_of_length_le (by simp), List.drop_of_length_le (by simp), scanR, ← hs]
        rfl
      rw [hsc]
      exact ⟨rfl, _, rfl, rfl, rfl⟩
end Go.Proofs.Ytonkbljpcgadlaa
