/- The walks of the scanner's small functions, and of the document's. -/
import Derived.Test.YtonkbljpcgadlaaProg
import Derived.Test.YtonkbljpcgadlaaTokSpec
import Derived.Test.YtonkbljpcgadlaaOwn
namespace Go.Proofs.Ytonkbljpcgadlaa
open Go.RowKit
set_option linter.unusedVariables false

theorem letter_any (n : Nat) (hn : n < 256) (w : World) : Calls Try.prog 96 #[.int .u8 n] w fun e w' => e = .returned (.bool (isLN n)) ∧ w = w' := by
  go_enter Try.func96, Try.ntmps96
  go_wp2
  all_goals go_ret
  all_goals exact ⟨ret_bool (by rw [Bool.eq_iff_iff]; simp [isLN]; try omega), rfl⟩
theorem digit_any (n : Nat) (hn : n < 256) (w : World) : Calls Try.prog 99 #[.int .u8 n] w fun e w' => e = .returned (.bool (isDN n)) ∧ w = w' := by
  go_enter Try.func99, Try.ntmps99
  go_wp2
  all_goals go_ret
  all_goals exact ⟨ret_bool (by rw [Bool.eq_iff_iff]; simp [isDN]; try omega), rfl⟩
theorem between_any (n a b : Int) (w : World) : Calls Try.prog 69 #[.int .i64 n, .int .i64 a, .int .i64 b] w fun e w' => e = .returned (.bool (decide (a ≤ n) && decide (n ≤ b))) ∧ w = w' := by
  go_enter Try.func69, Try.ntmps69
  go_wp2
  all_goals go_ret
  all_goals exact ⟨ret_bool (by rw [Bool.eq_iff_iff]; simp; try omega), rfl⟩
theorem isLetter_any (n : Nat) (hn : n < 256) (w : World) : Calls Try.prog 105 #[.int .u8 n] w fun e w' => e = .returned (.bool (isLN n)) ∧ w = w' := by
  go_enter Try.func105, Try.ntmps105
  go_wp2_with (go_at_call 69; refine (between_any _ _ _ _).mono ?_; rintro e w' ⟨rfl, rfl⟩)
  go_ret
  exact ⟨ret_bool (by rw [Bool.eq_iff_iff]; simp [isLN]; try omega), rfl⟩
theorem isDigit_any (n : Nat) (hn : n < 256) (w : World) : Calls Try.prog 106 #[.int .u8 n] w fun e w' => e = .returned (.bool (isDN n)) ∧ w = w' := by
  go_enter Try.func106, Try.ntmps106
  go_wp2_with (go_at_call 69; refine (between_any _ _ _ _).mono ?_; rintro e w' ⟨rfl, rfl⟩)
  go_ret
  exact ⟨ret_bool (by rw [Bool.eq_iff_iff]; simp [isDN]; try omega), rfl⟩
theorem word_any (n : Nat) (hn : n < 256) (w : World) : Calls Try.prog 98 #[.int .u8 n] w fun e w' => e = .returned (.bool (isLN n || isDN n)) ∧ w = w' := by
  cases hl : isLN n with
  | true =>
    go_enter Try.func98, Try.ntmps98
    go_wp2_with (go_at_call 96; refine (letter_any _ hn _).mono ?_; rintro e w' ⟨rfl, rfl⟩)
    go_ret
    exact ⟨by simp, rfl⟩
  | false =>
    go_enter Try.func98, Try.ntmps98
    go_wp2_with (first | (go_at_call 96; refine (letter_any _ hn _).mono ?_; rintro e w' ⟨rfl, rfl⟩) | (go_at_call 99; refine (digit_any _ hn _).mono ?_; rintro e w' ⟨rfl, rfl⟩))
    go_ret
    exact ⟨by simp, rfl⟩

theorem byte_eq {c : UInt8} {k : Nat} (hk : k < 256) (h : c = UInt8.ofNat k) : ((c.toNat : Int) == (k : Int)) = true := by
  subst h; simp; omega
theorem byte_ne {c : UInt8} {k : Nat} (hk : k < 256) (h : c ≠ UInt8.ofNat k) : ((c.toNat : Int) == (k : Int)) = false := by
  rw [beq_eq_false_iff_ne]
  intro e
  exact h (by rw [← UInt8.toNat_inj]; simp; omega)

theorem skipN_blank {c : UInt8} {r : List UInt8} {l : List UInt8} {i n : Nat} (hd : l.drop i = c :: l.drop (i + 1)) (h37 : c ≠ 37) (hb : blank c = true) (h : i + skipN (l.drop i) false = n) : i + 1 + skipN (l.drop (i + 1)) false = n := by
  rw [hd, skipN, if_neg (by simpa using h37), if_pos hb] at h; omega
theorem skipN_stop {c : UInt8} {l : List UInt8} {i n : Nat} (hd : l.drop i = c :: l.drop (i + 1)) (h37 : c ≠ 37) (hb : blank c = false) (h : i + skipN (l.drop i) false = n) : i = n := by
  rw [hd, skipN, if_neg (by simpa using h37), if_neg (by simp [hb])] at h; omega
theorem skipN_note {l : List UInt8} {i n : Nat} (hd : l.drop i = 37 :: l.drop (i + 1)) (h : i + skipN (l.drop i) false = n) : i + skipN (l.drop i) true = n := by
  rw [hd, skipN, if_pos (by simp)] at h
  rw [hd, skipN, if_neg (by decide)]; exact h
theorem skipN_in {c : UInt8} {l : List UInt8} {i n : Nat} (hd : l.drop i = c :: l.drop (i + 1)) (h10 : c ≠ 10) (h : i + skipN (l.drop i) true = n) : i + 1 + skipN (l.drop (i + 1)) true = n := by
  rw [hd, skipN, if_neg (by simpa using h10)] at h; omega
theorem skipN_out {l : List UInt8} {i n : Nat} (hd : l.drop i = 10 :: l.drop (i + 1)) (h : i + skipN (l.drop i) true = n) : i + skipN (l.drop i) false = n := by
  rw [hd, skipN, if_pos (by simp)] at h
  rw [hd, skipN, if_neg (by decide), if_pos (by decide)]; exact h
theorem skipN_end {l : List UInt8} {i n : Nat} (hl : l.length ≤ i) (note : Bool) (h : i + skipN (l.drop i) note = n) : i = n ∧ i + skipN (l.drop i) false = n := by
  rw [List.drop_of_length_le hl] at h ⊢
  simp [skipN] at h ⊢; exact h

set_option maxHeartbeats 1000000 in
/-- Skip: past blanks and remarks. -/
theorem skip_any (g : Nat) (s : ByteArray) (i0 : Nat) (w : World) (hs : s.size ≤ 4000) (h0 : i0 ≤ s.size) (hb : Blk w g 86 #[.string s, .int .i64 i0]) :
    Calls Try.prog 54 #[.pointer (some ⟨g, 0, none⟩)] w fun e w' => e = .returned (.tuple #[]) ∧
      Blk w' g 86 #[.string s, .int .i64 ↑(i0 + skipN (s.data.toList.drop i0) false)] ∧ w.grownBy w' (some g) := by
  go_enter Try.func54, Try.ntmps54
  go_wp2
  go_loopg [] (s.size) (fun k wr => ∃ i : Nat, i ≤ s.size ∧ s.size - i ≤ k ∧ Hid (Blk wr g 86 #[.string s, .int .i64 i]) ∧ Hid (i + skipN (s.data.toList.drop i) false = i0 + skipN (s.data.toList.drop i0) false) ∧ w.grownBy wr (some g))
  case atStart => exact ⟨i0, h0, by omega, hb, rfl, World.grownBy.refl _ _⟩
  case round =>
    obtain ⟨i, hi, hk, hB, hE, hG⟩ := hrel
    obtain ⟨wo, rfl⟩ : ∃ wo : World, wo = wr := ⟨_, rfl⟩
    have c0 : wo.cell? ⟨g, 0, none⟩ = some (.string s) := hB.out.cell 0
    have c1 : wo.cell? ⟨g, 1, none⟩ = some (.int .i64 i) := hB.out.cell 1
    have f1 : wo.frozen? ⟨g, 1, none⟩ = false := hB.out.frozen 1
    clear h0 hb
    by_cases hlt : i < s.size
    · have hlt' : (i : Int) < (s.size : Int) := by omega
      have hd := Lib.hid (data_drop s i hlt)
      by_cases e37 : s[i] = 37
      · have y37 := byte_eq (k := 37) (by omega) e37
        have n32 := byte_ne (c := s[i]) (k := 32) (by omega) (by rw [e37]; decide)
        have n9 := byte_ne (c := s[i]) (k := 9) (by omega) (by rw [e37]; decide)
        have n10 := byte_ne (c := s[i]) (k := 10) (by omega) (by rw [e37]; decide)
        have E37 := Lib.hid e37
        clear e37
        go_wp2
        go_quiet (fail)
        go_wp2
        go_quiet (fail)
        go_wp2
        go_loopg [] (s.size) (fun k wq => ∃ j : Nat, i ≤ j ∧ j ≤ s.size ∧ s.size - j ≤ k ∧ Hid (Blk wq g 86 #[.string s, .int .i64 j]) ∧ Hid (j + skipN (s.data.toList.drop j) true = i0 + skipN (s.data.toList.drop i0) false) ∧ w.grownBy wq (some g))
        case atStart => exact ⟨i, by omega, hi, by omega, hB.out.drewN _, skipN_note (by rw [hd.out, E37.out]) hE.out, only_drewN hG _⟩
        case round =>
          obtain ⟨j, hij, hj, hk2, hB2, hE2, hG2⟩ := hrel
          have d0 : wr.cell? ⟨g, 0, none⟩ = some (.string s) := hB2.out.cell 0
          have d1 : wr.cell? ⟨g, 1, none⟩ = some (.int .i64 j) := hB2.out.cell 1
          have d2 : wr.frozen? ⟨g, 1, none⟩ = false := hB2.out.frozen 1
          clear hB hE hG c0 c1 f1
          by_cases hjl : j < s.size
          · have hjl' : (j : Int) < (s.size : Int) := by omega
            have hd2 := Lib.hid (data_drop s j hjl)
            by_cases e10 : s[j] = 10
            · have y10' : ((s[j].toNat : Int) != 10) = false := by rw [e10]; decide
              have hne : i ≠ j := by
                rintro rfl
                have := E37.out
                rw [e10] at this
                exact absurd this (by decide)
              have E10 := Lib.hid e10
              clear e10 y37 n32 n9 n10
              go_wp2
              go_quiet (fail)
              go_wp2
              go_roundg (s.size - j)
              case measure => omega
              case rel => exact ⟨j, by omega, by omega, hB2.out.drewN _, skipN_out (by rw [hd2.out, E10.out]) hE2.out, only_drewN hG2 _⟩
            · have y10' : ((s[j].toNat : Int) != 10) = true := by
                rw [bne_iff_ne]; intro e; exact e10 (by rw [← UInt8.toNat_inj]; simp; omega)
              have E10 := Lib.hid e10
              clear e10 y37 n32 n9 n10
              go_wp2
              go_quiet (fail)
              go_wp2
              go_roundg (s.size - (j + 1))
              case measure => omega
              case rel => exact ⟨j + 1, by omega, by omega, by omega, (hB2.out.drewN _).set_ 1 _, skipN_in hd2.out E10.out hE2.out, only_setCell (only_drewN hG2 _) (.inl rfl) _⟩
          · have hjl' : decide ((j : Int) < (s.size : Int)) = false := by simp; omega
            clear y37 n32 n9 n10
            go_wp2
            go_quiet (fail)
            go_wp2
            go_roundg (s.size - j)
            case measure => omega
            case rel => exact ⟨j, by omega, by omega, hB2.out.drewN _, (skipN_end (by simpa using hjl) true hE2.out).2, only_drewN hG2 _⟩
      · have n37 := byte_ne (k := 37) (by omega) e37
        have N37 := Lib.hid e37
        clear e37
        by_cases e32 : s[i] = 32
        · have y32 := byte_eq (k := 32) (by omega) e32
          have hbl : blank s[i] = true := by simp [blank, e32]
          have BL := Lib.hid hbl
          clear e32 n37 hbl
          go_wp2
          go_quiet (fail)
          go_wp2
          go_quiet (fail)
          go_wp2
          go_roundg (s.size - (i + 1))
          case measure => omega
          case rel => exact ⟨i + 1, by omega, by omega, (hB.out.drewN _).set_ 1 _, skipN_blank (r := []) hd.out N37.out BL.out hE.out, only_setCell (only_drewN hG _) (.inl rfl) _⟩
        · have n32 := byte_ne (k := 32) (by omega) e32
          by_cases e9 : s[i] = 9
          · have y9 := byte_eq (k := 9) (by omega) e9
            have hbl : blank s[i] = true := by simp [blank, e9]
            have BL := Lib.hid hbl
            clear e9 e32 n37 hbl
            go_wp2
            go_quiet (fail)
            go_wp2
            go_quiet (fail)
            go_wp2
            go_roundg (s.size - (i + 1))
            case measure => omega
            case rel => exact ⟨i + 1, by omega, by omega, (hB.out.drewN _).set_ 1 _, skipN_blank (r := []) hd.out N37.out BL.out hE.out, only_setCell (only_drewN hG _) (.inl rfl) _⟩
          · have n9 := byte_ne (k := 9) (by omega) e9
            by_cases e10 : s[i] = 10
            · have y10 := byte_eq (k := 10) (by omega) e10
              have hbl : blank s[i] = true := by simp [blank, e10]
              have BL := Lib.hid hbl
              clear e10 e9 e32 n37 hbl
              go_wp2
              go_quiet (fail)
              go_wp2
              go_quiet (fail)
              go_wp2
              go_roundg (s.size - (i + 1))
              case measure => omega
              case rel => exact ⟨i + 1, by omega, by omega, (hB.out.drewN _).set_ 1 _, skipN_blank (r := []) hd.out N37.out BL.out hE.out, only_setCell (only_drewN hG _) (.inl rfl) _⟩
            · have n10 := byte_ne (k := 10) (by omega) e10
              have hbl : blank s[i] = false := by simp [blank, e10, e9, e32]
              have BL := Lib.hid hbl
              clear e10 e9 e32 hbl
              go_wp2
              go_quiet (fail)
              go_wp2
              go_quiet (fail)
              go_wp2
              have hfin := skipN_stop hd.out N37.out BL.out hE.out
              rw [← hfin]
              refine bodyPost_ret (results_none rfl _ _ _) rfl ?_
              exact ⟨rfl, hB.out.drewN _, only_drewN hG _⟩
    · have hlt' : ¬ (i : Int) < (s.size : Int) := by omega
      go_wp2
      go_quiet (fail)
      go_wp2
      have hfin := (skipN_end (by simpa using hlt) false hE.out).1
      rw [← hfin]
      go_end0
      exact ⟨rfl, hB.out.drewN _, only_drewN hG _⟩
end Go.Proofs.Ytonkbljpcgadlaa
