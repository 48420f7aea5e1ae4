/- The walks of the document's TokenAt. -/
import Derived.Test.YtonkbljpcgadlaaTok2
namespace Go.Proofs.Ytonkbljpcgadlaa
open Go.RowKit
set_option linter.unusedVariables false

theorem extract_bs' (s : ByteArray) (i n : Nat) : s.extract i (i + n) = bs ((s.data.toList.drop i).take n) := by
  apply ByteArray.ext
  rw [ByteArray.data_extract]
  apply Array.ext'
  simp only [Array.toList_extract, List.extract_eq_take_drop, bs]
  congr 1; omega

set_option maxHeartbeats 1000000 in
theorem ref_at_letter (s : ByteArray) (i : Nat) (w : World) (hs : s.size ≤ 4000) (h0 : i < s.size) (hl : isLN s[i].toNat = true) :
    Calls Try.prog 56 #[.string s, .int .i64 i] w fun e w' => e = .returned (.tuple #[.int .i64 1, .int .i64 ↑(1 + ((s.data.toList.drop (i + 1)).takeWhile isW).length)]) ∧ w = w' := by
  have hle := tw_le (p := isW) (l := s.data.toList) (j := i + 1) (by simp; omega)
  have hss := UInt8.toNat_lt s[i]
  have hlt' : (i : Int) < (s.size : Int) := by omega
  obtain ⟨n, hn⟩ : ∃ n, n = ((s.data.toList.drop (i + 1)).takeWhile isW).length := ⟨_, rfl⟩
  rw [data_len, ← hn] at hle
  rw [← hn]
  have HN := Lib.hid hn
  clear hn
  go_enter Try.func56, Try.ntmps56
  go_wp2_with (go_at_call 105; refine (isLetter_any _ (by assumption) _).mono ?_; rintro e w' ⟨rfl, rfl⟩)
  go_loopg [7] s.size (fun gg v wr => ∃ j : Nat, i + 1 ≤ j ∧ j ≤ s.size ∧ s.size - j ≤ gg ∧ v = .int .i64 ↑(j - i) ∧ Hid (j + ((s.data.toList.drop j).takeWhile isW).length = i + 1 + n) ∧ w = wr)
  case atStart => exact ⟨i + 1, Nat.le_refl _, h0, by omega, by simp, by show _ = _; rw [HN.out], rfl⟩
  case round =>
    obtain ⟨j, hij, hj, hg, rfl, hE, rfl⟩ := hrel
    clear hl hss
    have e1 : (i : Int) + ((j - i : Nat) : Int) = (j : Int) := by omega
    by_cases hlt : j < s.size
    · have hjl : (j : Int) < (s.size : Int) := by omega
      have hd := Lib.hid (data_drop s j hlt)
      have hsj := UInt8.toNat_lt s[j]
      cases hlj : isLN s[j].toNat with
      | true =>
        have HP : Hid (isW s[j] = true) := by show _ = _; simp [isW, isL, hlj]
        go_wp2_with (go_at_call 105; refine (isLetter_any _ (by assumption) _).mono ?_; rintro e w' ⟨rfl, rfl⟩)
        go_roundg (s.size - (j + 1))
        case measure => omega
        case rel => exact ⟨j + 1, by omega, by omega, by omega, (by go_num), tw_in hd.out HP.out hE.out, rfl⟩
      | false =>
        cases hdj : isDN s[j].toNat with
        | true =>
          have HP : Hid (isW s[j] = true) := by show _ = _; simp [isW, isD, hdj]
          go_wp2_with (first | (go_at_call 105; refine (isLetter_any _ (by assumption) _).mono ?_; rintro e w' ⟨rfl, rfl⟩) | (go_at_call 106; refine (isDigit_any _ (by assumption) _).mono ?_; rintro e w' ⟨rfl, rfl⟩))
          go_roundg (s.size - (j + 1))
          case measure => omega
          case rel => exact ⟨j + 1, by omega, by omega, by omega, (by go_num), tw_in hd.out HP.out hE.out, rfl⟩
        | false =>
          have HP : Hid (isW s[j] = false) := by show _ = _; simp [isW, isL, isD, hlj, hdj]
          go_wp2_with (first | (go_at_call 105; refine (isLetter_any _ (by assumption) _).mono ?_; rintro e w' ⟨rfl, rfl⟩) | (go_at_call 106; refine (isDigit_any _ (by assumption) _).mono ?_; rintro e w' ⟨rfl, rfl⟩))
          go_ret2
          have := tw_out hd.out HP.out hE.out
          exact ⟨by rw [show 1 + n = j - i from by omega]; rfl, rfl⟩
    · have hjl : decide ((j : Int) < (s.size : Int)) = false := by simp; omega
      go_wp2_with fail
      go_ret2
      have := tw_end (by simpa using hlt) hE.out
      exact ⟨by rw [show 1 + n = j - i from by omega]; rfl, rfl⟩

set_option maxHeartbeats 1000000 in
theorem ref_at_digit (s : ByteArray) (i : Nat) (w : World) (hs : s.size ≤ 4000) (h0 : i < s.size) (hl : isLN s[i].toNat = false) (hdg : isDN s[i].toNat = true) :
    Calls Try.prog 56 #[.string s, .int .i64 i] w fun e w' => e = .returned (.tuple #[.int .i64 2, .int .i64 ↑(1 + ((s.data.toList.drop (i + 1)).takeWhile isD).length)]) ∧ w = w' := by
  have hle := tw_le (p := isD) (l := s.data.toList) (j := i + 1) (by simp; omega)
  have hss := UInt8.toNat_lt s[i]
  have hlt' : (i : Int) < (s.size : Int) := by omega
  obtain ⟨n, hn⟩ : ∃ n, n = ((s.data.toList.drop (i + 1)).takeWhile isD).length := ⟨_, rfl⟩
  rw [data_len, ← hn] at hle
  rw [← hn]
  have HN := Lib.hid hn
  clear hn
  go_enter Try.func56, Try.ntmps56
  go_wp2_with (first | (go_at_call 105; refine (isLetter_any _ (by assumption) _).mono ?_; rintro e w' ⟨rfl, rfl⟩) | (go_at_call 106; refine (isDigit_any _ (by assumption) _).mono ?_; rintro e w' ⟨rfl, rfl⟩))
  go_loopg [7] s.size (fun gg v wr => ∃ j : Nat, i + 1 ≤ j ∧ j ≤ s.size ∧ s.size - j ≤ gg ∧ v = .int .i64 ↑(j - i) ∧ Hid (j + ((s.data.toList.drop j).takeWhile isD).length = i + 1 + n) ∧ w = wr)
  case atStart => exact ⟨i + 1, Nat.le_refl _, h0, by omega, by simp, by show _ = _; rw [HN.out], rfl⟩
  case round =>
    obtain ⟨j, hij, hj, hg, rfl, hE, rfl⟩ := hrel
    clear hl hdg hss
    have e1 : (i : Int) + ((j - i : Nat) : Int) = (j : Int) := by omega
    by_cases hlt : j < s.size
    · have hjl : (j : Int) < (s.size : Int) := by omega
      have hd := Lib.hid (data_drop s j hlt)
      have hsj := UInt8.toNat_lt s[j]
      cases hdj : isDN s[j].toNat with
      | true =>
        have HP : Hid (isD s[j] = true) := hdj
        go_wp2_with (go_at_call 106; refine (isDigit_any _ (by assumption) _).mono ?_; rintro e w' ⟨rfl, rfl⟩)
        go_roundg (s.size - (j + 1))
        case measure => omega
        case rel => exact ⟨j + 1, by omega, by omega, by omega, (by go_num), tw_in hd.out HP.out hE.out, rfl⟩
      | false =>
        have HP : Hid (isD s[j] = false) := hdj
        go_wp2_with (go_at_call 106; refine (isDigit_any _ (by assumption) _).mono ?_; rintro e w' ⟨rfl, rfl⟩)
        go_ret2
        have := tw_out hd.out HP.out hE.out
        exact ⟨by rw [show 1 + n = j - i from by omega]; rfl, rfl⟩
    · have hjl : decide ((j : Int) < (s.size : Int)) = false := by simp; omega
      go_wp2_with fail
      go_ret2
      have := tw_end (by simpa using hlt) hE.out
      exact ⟨by rw [show 1 + n = j - i from by omega]; rfl, rfl⟩

theorem isTwo_take (l : List UInt8) : isTwo l = isTwo (l.take 2) := by
  match l with
  | [] => rfl
  | [a] => rfl
  | a :: b :: l => rfl
theorem two_list (s : ByteArray) (i : Nat) : (s.extract i (i + 2)).toList = (s.data.toList.drop i).take 2 := by
  rw [ByteArray.toList_eq, extract_bs']; rfl
theorem isTwo_iff (l : List UInt8) : isTwo l = (l.take 2 == [46, 46] || l.take 2 == [60, 61] || l.take 2 == [62, 61] || l.take 2 == [61, 61] || l.take 2 == [33, 61]) := by
  match l with
  | [] => rfl
  | [a] => simp [isTwo]
  | a :: b :: l => simp [isTwo]
theorem byte_eq' {c : UInt8} {k : Nat} (hk : k < 256) (h : c = UInt8.ofNat k) : ((k : Int) == (c.toNat : Int)) = true := by
  rw [beq_iff_eq]; have := byte_eq hk h; rw [beq_iff_eq] at this; exact this.symm
theorem byte_ne' {c : UInt8} {k : Nat} (hk : k < 256) (h : c ≠ UInt8.ofNat k) : ((k : Int) == (c.toNat : Int)) = false := by
  have := byte_ne hk h; rw [beq_eq_false_iff_ne] at this ⊢; exact fun e => this e.symm

set_option maxHeartbeats 2000000 in
/-- What is left of TokenAt: signs of two; of one; nothing. -/
theorem ref_at_rest (s : ByteArray) (i : Nat) (w : World) (hs : s.size ≤ 4000) (h0 : i < s.size) (hl : isLN s[i].toNat = false) (hdg : isDN s[i].toNat = false) (b1 b2 b3 b4 b5 b6 : Bool)
    (e1 : (((⟨#[91, 93, 59, 58, 44, 45]⟩ : ByteArray)[0]'(by decide)).toNat == (s[i].toNat : Int)) = b1) (e2 : (((⟨#[91, 93, 59, 58, 44, 45]⟩ : ByteArray)[1]'(by decide)).toNat == (s[i].toNat : Int)) = b2) (e3 : (((⟨#[91, 93, 59, 58, 44, 45]⟩ : ByteArray)[2]'(by decide)).toNat == (s[i].toNat : Int)) = b3) (e4 : (((⟨#[91, 93, 59, 58, 44, 45]⟩ : ByteArray)[3]'(by decide)).toNat == (s[i].toNat : Int)) = b4) (e5 : (((⟨#[91, 93, 59, 58, 44, 45]⟩ : ByteArray)[4]'(by decide)).toNat == (s[i].toNat : Int)) = b5) (e6 : (((⟨#[91, 93, 59, 58, 44, 45]⟩ : ByteArray)[5]'(by decide)).toNat == (s[i].toNat : Int)) = b6)
    (hx : (b1, b2, b3, b4, b5, b6) = (true, false, false, false, false, false) ∨ (b1, b2, b3, b4, b5, b6) = (false, true, false, false, false, false) ∨ (b1, b2, b3, b4, b5, b6) = (false, false, true, false, false, false) ∨ (b1, b2, b3, b4, b5, b6) = (false, false, false, true, false, false) ∨
      (b1, b2, b3, b4, b5, b6) = (false, false, false, false, true, false) ∨ (b1, b2, b3, b4, b5, b6) = (false, false, false, false, false, true) ∨ (b1, b2, b3, b4, b5, b6) = (false, false, false, false, false, false)) :
    Calls Try.prog 56 #[.string s, .int .i64 i] w fun e w' => e = .returned (.tuple #[.int .i64 (if isTwo (s.data.toList.drop i) = true then 3 else if (b1 || b2 || b3 || b4 || b5 || b6) = true then 3 else 0), .int .i64 (if isTwo (s.data.toList.drop i) = true then 2 else if (b1 || b2 || b3 || b4 || b5 || b6) = true then 1 else 0)]) ∧ w = w' := by
  have hss := UInt8.toNat_lt s[i]
  have hlt' : (i : Int) < (s.size : Int) := by omega
  cases ht : isTwo (s.data.toList.drop i) with
  | true =>
    have h2 : i + 1 < s.size := by
      rcases Nat.lt_or_ge (i + 1) s.size with h | h
      · exact h
      · rw [data_drop s i h0, List.drop_of_length_le (by simpa using h)] at ht; simp [isTwo] at ht
    have h2' : (i : Int) + 1 < (s.size : Int) := by omega
    rw [isTwo_iff, ← two_list] at ht
    have HT := Lib.hid ht
    clear ht hx
    go_enter Try.func56, Try.ntmps56
    go_wp2_with (first | (go_at_call 105; refine (isLetter_any _ (by assumption) _).mono ?_; rintro e w' ⟨rfl, rfl⟩) | (go_at_call 106; refine (isDigit_any _ (by assumption) _).mono ?_; rintro e w' ⟨rfl, rfl⟩))
    all_goals first
      | (go_ret2; exact ⟨rfl, rfl⟩)
      | (exfalso; have := HT.out; simp_all; done)
  | false =>
    by_cases h2 : i + 1 < s.size
    · have h2' : (i : Int) + 1 < (s.size : Int) := by omega
      rw [isTwo_iff, ← two_list] at ht
      simp only [Bool.or_eq_false_iff] at ht
      obtain ⟨⟨⟨⟨f1, f2⟩, f3⟩, f4⟩, f5⟩ := ht
      rcases hx with h | h | h | h | h | h | h <;> (simp only [Prod.mk.injEq] at h; obtain ⟨rfl, rfl, rfl, rfl, rfl, rfl⟩ := h)
      all_goals
        go_enter Try.func56, Try.ntmps56
        go_wp2_with (first | (go_at_call 105; refine (isLetter_any _ (by assumption) _).mono ?_; rintro e w' ⟨rfl, rfl⟩) | (go_at_call 106; refine (isDigit_any _ (by assumption) _).mono ?_; rintro e w' ⟨rfl, rfl⟩))
        go_rounds 7
        go_ret2
        exact ⟨by simp, rfl⟩
    · have h2' : ¬ (i : Int) + 1 < (s.size : Int) := by omega
      clear ht
      rcases hx with h | h | h | h | h | h | h <;> (simp only [Prod.mk.injEq] at h; obtain ⟨rfl, rfl, rfl, rfl, rfl, rfl⟩ := h)
      all_goals
        go_enter Try.func56, Try.ntmps56
        go_wp2_with (first | (go_at_call 105; refine (isLetter_any _ (by assumption) _).mono ?_; rintro e w' ⟨rfl, rfl⟩) | (go_at_call 106; refine (isDigit_any _ (by assumption) _).mono ?_; rintro e w' ⟨rfl, rfl⟩))
        go_rounds 7
        go_ret2
        exact ⟨by simp, rfl⟩

theorem isSign_iff (c : UInt8) : isSign c = (c == 91 || c == 93 || c == 59 || c == 58 || c == 44 || c == 45) := rfl

/-- TokenAt, as the document says. -/
theorem ref_at (s : ByteArray) (i : Nat) (w : World) (hs : s.size ≤ 4000) (h0 : i < s.size) :
    Calls Try.prog 56 #[.string s, .int .i64 i] w fun e w' => e = .returned (.tuple #[.int .i64 ↑(tokenAt (s.data.toList.drop i)).1, .int .i64 ↑(tokenAt (s.data.toList.drop i)).2]) ∧ w = w' := by
  have hd := data_drop s i h0
  cases hl : isLN s[i].toNat with
  | true =>
    have ht : tokenAt (s.data.toList.drop i) = (1, 1 + ((s.data.toList.drop (i + 1)).takeWhile isW).length) := by rw [hd, tokenAt, if_pos (show isL s[i] = true from hl)]
    rw [ht]
    exact ref_at_letter s i w hs h0 hl
  | false =>
    have nl : ¬ isL s[i] = true := by unfold isL; simp [hl]
    cases hdg : isDN s[i].toNat with
    | true =>
      have ht : tokenAt (s.data.toList.drop i) = (2, 1 + ((s.data.toList.drop (i + 1)).takeWhile isD).length) := by rw [hd, tokenAt, if_neg nl, if_pos (show isD s[i] = true from hdg)]
      rw [ht]
      exact ref_at_digit s i w hs h0 hl hdg
    | false =>
      have nd : ¬ isD s[i] = true := by unfold isD; simp [hdg]
      have key : ∀ b1 b2 b3 b4 b5 b6 : Bool, isSign s[i] = (b1 || b2 || b3 || b4 || b5 || b6) → tokenAt (s.data.toList.drop i) = (if isTwo (s.data.toList.drop i) = true then 3 else if (b1 || b2 || b3 || b4 || b5 || b6) = true then 3 else 0, if isTwo (s.data.toList.drop i) = true then 2 else if (b1 || b2 || b3 || b4 || b5 || b6) = true then 1 else 0) := by
        intro b1 b2 b3 b4 b5 b6 hb
        rw [hd, tokenAt, if_neg nl, if_neg nd, hb]
        split
        · rfl
        · split <;> rfl
      have go : ∀ b1 b2 b3 b4 b5 b6 : Bool, isSign s[i] = (b1 || b2 || b3 || b4 || b5 || b6) → (((91 : Int) == (s[i].toNat : Int)) = b1) → (((93 : Int) == (s[i].toNat : Int)) = b2) → (((59 : Int) == (s[i].toNat : Int)) = b3) → (((58 : Int) == (s[i].toNat : Int)) = b4) → (((44 : Int) == (s[i].toNat : Int)) = b5) → (((45 : Int) == (s[i].toNat : Int)) = b6) →
          ((b1, b2, b3, b4, b5, b6) = (true, false, false, false, false, false) ∨ (b1, b2, b3, b4, b5, b6) = (false, true, false, false, false, false) ∨ (b1, b2, b3, b4, b5, b6) = (false, false, true, false, false, false) ∨ (b1, b2, b3, b4, b5, b6) = (false, false, false, true, false, false) ∨
            (b1, b2, b3, b4, b5, b6) = (false, false, false, false, true, false) ∨ (b1, b2, b3, b4, b5, b6) = (false, false, false, false, false, true) ∨ (b1, b2, b3, b4, b5, b6) = (false, false, false, false, false, false)) →
          Calls Try.prog 56 #[.string s, .int .i64 i] w fun e w' => e = .returned (.tuple #[.int .i64 ↑(tokenAt (s.data.toList.drop i)).1, .int .i64 ↑(tokenAt (s.data.toList.drop i)).2]) ∧ w = w' := by
        intro b1 b2 b3 b4 b5 b6 hb e1 e2 e3 e4 e5 e6 hx
        refine (ref_at_rest s i w hs h0 hl hdg b1 b2 b3 b4 b5 b6 e1 e2 e3 e4 e5 e6 hx).mono fun e w' ⟨h1, h2⟩ => ⟨?_, h2⟩
        rw [h1, key b1 b2 b3 b4 b5 b6 hb]
        split
        · rfl
        · split <;> rfl
      by_cases c1 : s[i] = 91
      · exact go true false false false false false (by rw [c1]; rfl) (by rw [c1]; rfl) (by rw [c1]; rfl) (by rw [c1]; rfl) (by rw [c1]; rfl) (by rw [c1]; rfl) (by rw [c1]; rfl) (by simp)
      by_cases c2 : s[i] = 93
      · exact go false true false false false false (by rw [c2]; rfl) (by rw [c2]; rfl) (by rw [c2]; rfl) (by rw [c2]; rfl) (by rw [c2]; rfl) (by rw [c2]; rfl) (by rw [c2]; rfl) (by simp)
      by_cases c3 : s[i] = 59
      · exact go false false true false false false (by rw [c3]; rfl) (by rw [c3]; rfl) (by rw [c3]; rfl) (by rw [c3]; rfl) (by rw [c3]; rfl) (by rw [c3]; rfl) (by rw [c3]; rfl) (by simp)
      by_cases c4 : s[i] = 58
      · exact go false false false true false false (by rw [c4]; rfl) (by rw [c4]; rfl) (by rw [c4]; rfl) (by rw [c4]; rfl) (by rw [c4]; rfl) (by rw [c4]; rfl) (by rw [c4]; rfl) (by simp)
      by_cases c5 : s[i] = 44
      · exact go false false false false true false (by rw [c5]; rfl) (by rw [c5]; rfl) (by rw [c5]; rfl) (by rw [c5]; rfl) (by rw [c5]; rfl) (by rw [c5]; rfl) (by rw [c5]; rfl) (by simp)
      by_cases c6 : s[i] = 45
      · exact go false false false false false true (by rw [c6]; rfl) (by rw [c6]; rfl) (by rw [c6]; rfl) (by rw [c6]; rfl) (by rw [c6]; rfl) (by rw [c6]; rfl) (by rw [c6]; rfl) (by simp)
      exact go false false false false false false (by simp [isSign, c1, c2, c3, c4, c5, c6]) (byte_ne' (k := 91) (by omega) c1) (byte_ne' (k := 93) (by omega) c2) (byte_ne' (k := 59) (by omega) c3) (byte_ne' (k := 58) (by omega) c4) (byte_ne' (k := 44) (by omega) c5) (byte_ne' (k := 45) (by omega) c6) (by simp)
end Go.Proofs.Ytonkbljpcgadlaa
