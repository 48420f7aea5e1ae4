/- What is joined is scanned as it was, in plain Lean. -/
import Derived.Test.YtonkbljpcgadlaaTokLaw
namespace Go.Proofs.Ytonkbljpcgadlaa
set_option linter.unusedVariables false

theorem tw_all {p : UInt8 → Bool} : ∀ {r : List UInt8}, (r.takeWhile p).length = r.length → ∀ x ∈ r, p x = true
  | [], _, x, hx => by simp at hx
  | a :: r, h, x, hx => by
    rw [List.takeWhile_cons] at h
    split at h
    · rename_i ha
      rcases List.mem_cons.1 hx with rfl | hx
      · exact ha
      · exact tw_all (by simpa using h) x hx
    · simp at h
theorem tw_stop {p : UInt8 → Bool} (h32 : p 32 = false) : ∀ {r : List UInt8} (rest : List UInt8), (r.takeWhile p).length = r.length → (r ++ 32 :: rest).takeWhile p = r
  | [], rest, _ => by simp [h32]
  | a :: r, rest, h => by
    rw [List.takeWhile_cons] at h
    split at h
    · rename_i ha
      rw [List.cons_append, List.takeWhile_cons, if_pos ha, tw_stop h32 rest (by simpa using h)]
    · simp at h
theorem tw_take {p : UInt8 → Bool} : ∀ (r : List UInt8), (r.take (r.takeWhile p).length).takeWhile p = r.takeWhile p
  | [] => rfl
  | a :: r => by
    rw [List.takeWhile_cons]
    split
    · rename_i ha
      rw [List.length_cons, List.take_succ_cons, List.takeWhile_cons, if_pos ha, tw_take r]
    · simp

/-- A token cut out of its text is that token. -/
theorem tokenAt_take {l : List UInt8} (h : (tokenAt l).1 ≠ 0) : tokenAt (l.take (tokenAt l).2) = tokenAt l := by
  cases l with
  | nil => simp [tokenAt] at h
  | cons c r =>
    simp only [tokenAt] at h ⊢
    by_cases h1 : isL c = true
    · simp only [if_pos h1]
      rw [Nat.add_comm 1, List.take_succ_cons]
      simp only [if_pos h1]
      rw [tw_take, Nat.add_comm]
    · simp only [if_neg h1] at h ⊢
      by_cases h2 : isD c = true
      · simp only [if_pos h2]
        rw [Nat.add_comm 1, List.take_succ_cons]
        simp only [if_neg h1, if_pos h2]
        rw [tw_take, Nat.add_comm]
      · simp only [if_neg h2] at h ⊢
        by_cases h3 : isTwo (c :: r) = true
        · simp only [if_pos h3]
          cases r with
          | nil => simp [isTwo] at h3
          | cons d r =>
            have h3' : isTwo [c, d] = true := h3
            simp only [List.take_succ_cons, List.take_zero, if_neg h1, if_neg h2, if_pos h3']
        · simp only [if_neg h3] at h ⊢
          by_cases h4 : isSign c = true
          · simp only [if_pos h4]
            simp only [List.take_succ_cons, List.take_zero, if_neg h1, if_neg h2]
            rw [if_neg (by simp [isTwo]), if_pos h4]
          · simp only [if_neg h4] at h
            exact absurd rfl h

/-- A blank behind it turns nothing. -/
theorem tokenAt_blank {l : List UInt8} (rest : List UInt8) (h : (tokenAt l).1 ≠ 0) (hn : (tokenAt l).2 = l.length) : tokenAt (l ++ 32 :: rest) = tokenAt l := by
  cases l with
  | nil => simp [tokenAt] at h
  | cons c r =>
    rw [List.cons_append]
    simp only [tokenAt] at h hn ⊢
    by_cases h1 : isL c = true
    · simp only [if_pos h1] at hn ⊢
      rw [tw_stop (by decide) rest (by simp at hn; omega)]
      simp at hn ⊢; omega
    · simp only [if_neg h1] at h hn ⊢
      by_cases h2 : isD c = true
      · simp only [if_pos h2] at hn ⊢
        rw [tw_stop (by decide) rest (by simp at hn; omega)]
        simp at hn ⊢; omega
      · simp only [if_neg h2] at h hn ⊢
        by_cases h3 : isTwo (c :: r) = true
        · simp only [if_pos h3] at hn ⊢
          cases r with
          | nil => simp [isTwo] at h3
          | cons d r =>
            have h3' : isTwo (c :: (d :: r ++ 32 :: rest)) = true := h3
            rw [if_pos h3']
        · simp only [if_neg h3] at h hn ⊢
          by_cases h4 : isSign c = true
          · simp only [if_pos h4] at hn ⊢
            have hr : r = [] := List.eq_nil_of_length_eq_zero (by simpa using hn.symm)
            subst hr
            rw [if_neg (by simp [isTwo])]
          · simp only [if_neg h4] at h
            exact absurd rfl h

theorem tokOk_parts {t : Tok} (h : tokOk t = true) : ∃ c r, t.text.data.toList = c :: r ∧ tokenAt (c :: r) = (t.kind.toNat, (c :: r).length) ∧ 0 ≤ t.kind ∧ tokBad t.kind.toNat (c :: r).length c = 0 := by
  unfold tokOk at h
  cases hd : t.text.data.toList with
  | nil => rw [hd] at h; cases h
  | cons c r =>
    rw [hd] at h
    simp only [isTok, Bool.and_eq_true, decide_eq_true_eq] at h
    obtain ⟨⟨⟨_, h2⟩, h3⟩, h4⟩ := h
    have hk : (tokenAt (c :: r)).1 = t.kind.toNat := by omega
    refine ⟨c, r, rfl, Prod.ext hk h3, by omega, ?_⟩
    rw [← hk, ← h3]; exact h4

def Alike (a b : List Tok) : Prop := a.length = b.length ∧ ∀ j (h : j < a.length) (h' : j < b.length), a[j].kind = b[j].kind ∧ a[j].text = b[j].text
theorem Alike.nil : Alike [] [] := ⟨rfl, fun j h => absurd h (by simp)⟩
theorem Alike.cons {t u : Tok} {a b : List Tok} (hk : t.kind = u.kind) (hx : t.text = u.text) (h : Alike a b) : Alike (t :: a) (u :: b) :=
  ⟨by simp [h.1], fun j h1 h2 => by
    cases j with
    | zero => exact ⟨hk, hx⟩
    | succ j => exact h.2 j (by simpa using h1) (by simpa using h2)⟩

/-- What is joined is scanned as it was. -/
theorem scan_join : ∀ (l : List Tok) (i : Nat) (out : List Tok), (∀ t ∈ l, tokOk t = true) → ∃ new, scanR (joinL l) i false out 0 = (out ++ new, 0, 0) ∧ Alike l new
  | [], i, out, _ => ⟨[], by simp [joinL, List.intercalate, scanR], Alike.nil⟩
  | [t], i, out, h => by
    obtain ⟨c, r, h1, h2, h3, h4⟩ := tokOk_parts (h t (by simp))
    have hj : joinL [t] = c :: r := by simp [joinL, List.intercalate, h1]
    have hk0 : (tokenAt (c :: r)).1 ≠ 0 := by rw [h2]; intro e; simp only at e; rw [e] at h4; simp [tokBad] at h4
    obtain ⟨n37, nbl⟩ := tokenAt_ne hk0
    refine ⟨[⟨t.kind, i, t.text⟩], ?_, Alike.cons rfl rfl Alike.nil⟩
    rw [hj, scanR, if_neg (by simpa using n37), if_neg (by simp [nbl]), h2]
    simp only [if_pos h4]
    rw [scanR_skip r _ _ _ _ (by simp), List.take_of_length_le (Nat.le_refl _), List.drop_of_length_le (by simp), scanR, ← h1]
    have : ((t.kind.toNat : Nat) : Int) = t.kind := by omega
    rw [this]; rfl
  | t :: u :: l, i, out, h => by
    obtain ⟨c, r, h1, h2, h3, h4⟩ := tokOk_parts (h t (by simp))
    have hj : joinL (t :: u :: l) = c :: (r ++ 32 :: joinL (u :: l)) := by simp [joinL, List.intercalate, h1]
    have hk0 : (tokenAt (c :: r)).1 ≠ 0 := by rw [h2]; intro e; simp only at e; rw [e] at h4; simp [tokBad] at h4
    obtain ⟨n37, nbl⟩ := tokenAt_ne hk0
    have hta : tokenAt (c :: (r ++ 32 :: joinL (u :: l))) = (t.kind.toNat, (c :: r).length) := by
      have := tokenAt_blank (joinL (u :: l)) hk0 (by rw [h2])
      rw [List.cons_append] at this
      rw [this, h2]
    obtain ⟨new, a, b⟩ := scan_join (u :: l) (i + (c :: r).length + 1) (out ++ [⟨t.kind, i, t.text⟩]) (fun x hx => h x (by simp [List.mem_cons.1 hx]))
    refine ⟨⟨t.kind, i, t.text⟩ :: new, ?_, Alike.cons rfl rfl b⟩
    rw [hj, scanR, if_neg (by simpa using n37), if_neg (by simp [nbl]), hta]
    simp only [if_pos h4]
    rw [scanR_skip _ _ _ _ _ (by simp)]
    have hdrop : (r ++ 32 :: joinL (u :: l)).drop ((c :: r).length - 1) = 32 :: joinL (u :: l) := by simp
    have htake : (c :: (r ++ 32 :: joinL (u :: l))).take (c :: r).length = c :: r := by simp
    rw [hdrop, htake, scanR, if_neg (by decide), if_pos (by decide)]
    have : ((t.kind.toNat : Nat) : Int) = t.kind := by omega
    rw [this, show bs (c :: r) = t.text from by rw [← h1]; rfl]
    have hi : i + 1 + ((c :: r).length - 1) + 1 = i + (c :: r).length + 1 := by simp; omega
    rw [hi, a]; simp

theorem joinL_len' : ∀ (l : List Tok), l ≠ [] → (joinL l).length + 1 = joinLen l
  | [], h => absurd rfl h
  | [t], _ => by simp [joinL, joinLen, List.intercalate]; omega
  | t :: u :: l, _ => by
    have ih := joinL_len' (u :: l) (by simp)
    have e : joinL (t :: u :: l) = t.text.data.toList ++ [32] ++ joinL (u :: l) := by simp [joinL, List.intercalate]
    rw [e]
    simp only [joinLen, List.map_cons, List.sum_cons] at ih ⊢
    simp at ih ⊢; omega

theorem join_scan {l : List Tok} (h : (joinS l).2 = 0) : ∃ m, scanS (joinS l).1.data.toList = (m, 0, 0) ∧ Alike l m := by
  unfold joinS at h ⊢
  split at h
  · rename_i hall
    rw [if_pos hall]
    split at h
    · simp at h
    · rename_i hle
      rw [if_neg hle]
      obtain ⟨new, a, b⟩ := scan_join l 0 [] (List.all_eq_true.1 hall)
      refine ⟨new, ?_, b⟩
      show scanS (joinL l) = _
      unfold scanS
      have hl : ¬ (joinL l).length > 4000 := by
        by_cases h0 : l = []
        · subst h0; simp [joinL, List.intercalate]
        · have := joinL_len' l h0; omega
      rw [if_neg hl, a]; simp
  · simp at h

theorem chain_ok {L : List UInt8} (hL : L.length ≤ 4000) : ∀ {ts : List Tok} {lo : Nat}, Chain L lo ts → ∀ t ∈ ts, tokOk t = true
  | [], _, _, t, ht => by simp at ht
  | u :: ts, lo, ⟨j, n, h0, h1, h2, h3, h4, ⟨c, r, h5, h6, h7, h8⟩, h9⟩, t, ht => by
    rcases List.mem_cons.1 ht with rfl | ht
    · have hk0 : (tokenAt (c :: r)).1 ≠ 0 := by rw [h6]; intro e; simp only at e; rw [e] at h8; simp [tokBad] at h8
      have hta := tokenAt_take hk0
      rw [h6] at hta
      simp only at hta
      have htx : t.text.data.toList = (c :: r).take n := by rw [h4, h5]; rfl
      have hlen : ((c :: r).take n).length = n := by
        have := congrArg List.length h5
        simp at this ⊢; omega
      unfold tokOk
      rw [htx]
      obtain ⟨n', rfl⟩ : ∃ n', n = n' + 1 := ⟨n - 1, by omega⟩
      rw [List.take_succ_cons] at hta hlen ⊢
      simp only [isTok, hta, hlen]
      simp [h8]
      omega
    · exact chain_ok hL h9 t ht

theorem scan_joins {s : List UInt8} (h : (scanS s).2.2 = 0) : (joinS (scanS s).1).2 = 0 ∨ (joinS (scanS s).1).2 = 2 := by
  obtain ⟨hc, _, hl⟩ := scanS_chain h
  unfold joinS
  rw [if_pos (List.all_eq_true.2 (chain_ok hl hc))]
  split
  · exact .inr rfl
  · exact .inl rfl
end Go.Proofs.Ytonkbljpcgadlaa
