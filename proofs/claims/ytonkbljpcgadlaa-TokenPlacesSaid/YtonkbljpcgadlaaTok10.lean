/- The walks of one, IsToken. -/
import Derived.Test.YtonkbljpcgadlaaTok9
namespace Go.Proofs.Ytonkbljpcgadlaa
open Go.RowKit
set_option linter.unusedVariables false

theorem isTok_eq (kind : Int) (s : ByteArray) (h0 : 0 < s.size) (hs : s.size ≤ 4000) {k n : Nat} (ht : tokenAt s.data.toList = (k, n)) :
    isTok kind s.data.toList = (decide ((k : Int) = kind) && decide (n = s.size) && decide (tokBad k n s[0] = 0)) := by
  have hd := data_drop s 0 h0
  rw [List.drop_zero] at hd
  have hl : s.data.toList.length = s.size := data_len s
  rw [hd] at ht hl ⊢
  simp only [isTok]
  rw [hl, ht]
  simp [hs]

set_option maxHeartbeats 1000000 in
theorem isToken_any (kind : Int) (s : ByteArray) (w : World) (hz : s.size ≤ 140737488355328) : Calls Try.prog 59 #[.int .i64 kind, .string s] w fun e w' => e = .returned (.bool (isTok kind s.data.toList)) ∧ w = w' := by
  by_cases h0 : s.size = 0
  · have hr : isTok kind s.data.toList = false := by
      have : s.data.toList = [] := List.eq_nil_of_length_eq_zero (by simpa using h0)
      rw [this]; rfl
    rw [hr]
    have h1 : s.toList = [] := by rw [ByteArray.toList_eq]; exact List.eq_nil_of_length_eq_zero (by simpa using h0)
    have h2 : s.toList.isEmpty = true := by rw [h1]; rfl
    clear h1
    go_enter Try.func59, Try.ntmps59
    go_wp2_with fail
    go_ret
    exact ⟨rfl, rfl⟩
  · have h1 : s.toList.isEmpty = false := by
      rw [ByteArray.toList_eq]
      cases h : s.data.toList with
      | nil => exact absurd (by have := congrArg List.length h; simpa using this) h0
      | cons a l => rfl
    by_cases hs : s.size ≤ 4000
    · have hs' : decide ((4000 : Int) < (s.size : Int)) = false := by simp; omega
      by_cases hk : kind = 0
      · subst hk
        have hr : isTok 0 s.data.toList = false := by
          obtain ⟨⟨k, n⟩, ht⟩ : ∃ kn, tokenAt s.data.toList = kn := ⟨_, rfl⟩
          rw [isTok_eq 0 s (by omega) hs ht]
          by_cases e : k = 0
          · subst e; simp [tokBad]
          · simp
            intro h; exact absurd h e
        rw [hr]
        go_enter Try.func59, Try.ntmps59
        go_wp2_with fail
        go_ret
        exact ⟨rfl, rfl⟩
      · have hk' : (kind == 0) = false := by simpa using hk
        have HK := Lib.hid hk
        clear hk
        have hcall := ref_at s 0 w hs (by omega)
        rw [List.drop_zero] at hcall
        obtain ⟨⟨k, n⟩, ht⟩ : ∃ kn, tokenAt s.data.toList = kn := ⟨_, rfl⟩
        have hR := isTok_eq kind s (by omega) hs ht
        have hkd := tokenAt_kind s.data.toList
        rw [ht] at hcall hkd
        simp only at hkd
        rw [hR]
        have HC := Lib.hid hcall
        clear hcall ht hR
        have hlen : (0 : Int) < (s.size : Int) := by omega
        have hss := UInt8.toNat_lt (s[0]'(by omega))
        by_cases e1 : (k : Int) = kind
        · subst e1
          by_cases e2 : n = s.size
          · have e2' : ((n : Int) == (s.size : Int)) = true := by simp [e2]
            have e2b : n ≤ s.size ∧ s.size ≤ n := by omega
            have E2 := Lib.hid e2
            clear e2
            match k, hkd, HC, HK, hk' with
            | 0, _, _, HK, _ => exact absurd rfl HK.out
            | 1, _, HC, _, _ =>
              replace HC : Hid (Calls Try.prog 56 #[.string s, .int .i64 0] w fun e w' => e = .returned (.tuple #[.int .i64 1, .int .i64 n]) ∧ w = w') := HC
              clear hk'
              show Calls Try.prog 59 #[.int .i64 1, .string s] w _
              go_enter Try.func59, Try.ntmps59
              go_wp2_with (go_at_call 56; refine (HC.out).mono ?_; rintro e w' ⟨rfl, rfl⟩)
              all_goals go_ret
              all_goals exact ⟨ret_bool (by rw [Bool.eq_iff_iff]; simp [tokBad, E2.out]; try omega), rfl⟩
            | 2, _, HC, _, _ =>
              replace HC : Hid (Calls Try.prog 56 #[.string s, .int .i64 0] w fun e w' => e = .returned (.tuple #[.int .i64 2, .int .i64 n]) ∧ w = w') := HC
              clear hk'
              show Calls Try.prog 59 #[.int .i64 2, .string s] w _
              by_cases e48 : s[0] = 48
              · have y48 : ((s[0].toNat : Int) == 48) = true := byte_eq (k := 48) (by omega) e48
                have E48 := Lib.hid e48
                clear e48
                go_enter Try.func59, Try.ntmps59
                go_wp2_with (go_at_call 56; refine (HC.out).mono ?_; rintro e w' ⟨rfl, rfl⟩)
                all_goals go_ret
                all_goals exact ⟨ret_bool (by rw [Bool.eq_iff_iff]; simp [tokBad, E2.out, E48.out]; try omega), rfl⟩
              · have y48 : ((s[0].toNat : Int) == 48) = false := byte_ne (k := 48) (by omega) e48
                have E48 := Lib.hid e48
                clear e48
                go_enter Try.func59, Try.ntmps59
                go_wp2_with (go_at_call 56; refine (HC.out).mono ?_; rintro e w' ⟨rfl, rfl⟩)
                all_goals go_ret
                all_goals exact ⟨ret_bool (by rw [Bool.eq_iff_iff]; simp [tokBad, E2.out, E48.out]; try omega), rfl⟩
            | 3, _, HC, _, _ =>
              replace HC : Hid (Calls Try.prog 56 #[.string s, .int .i64 0] w fun e w' => e = .returned (.tuple #[.int .i64 3, .int .i64 n]) ∧ w = w') := HC
              clear hk'
              show Calls Try.prog 59 #[.int .i64 3, .string s] w _
              go_enter Try.func59, Try.ntmps59
              go_wp2_with (go_at_call 56; refine (HC.out).mono ?_; rintro e w' ⟨rfl, rfl⟩)
              all_goals go_ret
              all_goals exact ⟨ret_bool (by rw [Bool.eq_iff_iff]; simp [tokBad, E2.out]; try omega), rfl⟩
          · have e2' : ((n : Int) == (s.size : Int)) = false := by rw [beq_eq_false_iff_ne]; omega
            go_enter Try.func59, Try.ntmps59
            go_wp2_with (go_at_call 56; refine (HC.out).mono ?_; rintro e w' ⟨rfl, rfl⟩)
            go_ret
            exact ⟨ret_bool (by simp [e2]), rfl⟩
        · have e1' : ((k : Int) == kind) = false := by simpa using e1
          go_enter Try.func59, Try.ntmps59
          go_wp2_with (go_at_call 56; refine (HC.out).mono ?_; rintro e w' ⟨rfl, rfl⟩)
          go_ret
          exact ⟨ret_bool (by simp [e1]), rfl⟩
    · have hs' : decide ((4000 : Int) < (s.size : Int)) = true := by simp; omega
      have hr : isTok kind s.data.toList = false := by
        cases hd : s.data.toList with
        | nil => rfl
        | cons a l =>
          have : (a :: l).length = s.size := by rw [← hd]; exact data_len s
          simp only [isTok, this]
          simp [hs]
      rw [hr]
      go_enter Try.func59, Try.ntmps59
      go_wp2_with fail
      go_ret
      exact ⟨rfl, rfl⟩
end Go.Proofs.Ytonkbljpcgadlaa
