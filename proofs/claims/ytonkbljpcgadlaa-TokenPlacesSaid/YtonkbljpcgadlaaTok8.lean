/- The walk of the document's ScanOf. -/
import Derived.Test.YtonkbljpcgadlaaTok6
import Derived.Test.YtonkbljpcgadlaaTok7
namespace Go.Proofs.Ytonkbljpcgadlaa
open Go.RowKit
set_option linter.unusedVariables false

theorem ref_scan_big (s : ByteArray) (w : World) (hs : 4000 < s.size) : Calls Try.prog 14 #[.string s] w fun e w' => e = .returned (.tuple #[.slice none 0 0, .int .i64 0, .int .i64 2]) ∧ w = w' := by
  go_enter Try.func14, Try.ntmps14
  go_wp2_with fail
  go_ret3
  exact ⟨rfl, rfl⟩

theorem byte_neq {c : UInt8} {k : Nat} (hk : k < 256) : ((c.toNat : Int) != (k : Int)) = (c != UInt8.ofNat k) := by
  by_cases h : c = UInt8.ofNat k
  · have := byte_eq hk h
    rw [bne, this, h]; simp
  · have := byte_ne hk h
    rw [bne, this]; simp [bne, h]
theorem ext0 (s : ByteArray) (i n : Nat) (h : i + n ≤ s.size) (hn : 1 ≤ n) (h0 : 0 < (s.extract i (i + n)).size) : (s.extract i (i + n))[0] = s[i]'(by omega) := by
  rw [ByteArray.getElem_extract]; rfl

set_option maxRecDepth 100000 in
set_option maxHeartbeats 2000000 in
theorem ref_scan_small (s : ByteArray) (w : World) (hs : s.size ≤ 4000) : Calls Try.prog 14 #[.string s] w fun e w' =>
    ∃ v, e = .returned (.tuple #[v, .int .i64 (scanR s.data.toList 0 false [] 0).2.1, .int .i64 (scanR s.data.toList 0 false [] 0).2.2]) ∧ Fresh w' w.heap.size v (scanR s.data.toList 0 false [] 0).1 ∧ Below w.heap.size w w' := by
  obtain ⟨R, hR⟩ : ∃ R, R = scanR s.data.toList 0 false [] 0 := ⟨_, rfl⟩
  rw [← hR]
  have HR := Lib.hid hR
  clear hR
  go_enter Try.func14, Try.ntmps14
  go_wp2_with fail
  go_loopg [5, 6, 7] s.size (fun gg vo vn va wr => ∃ (i : Nat) (note : Bool) (xs : List Tok), i ≤ s.size ∧ s.size - i ≤ gg ∧ xs.length ≤ i ∧ va = .int .i64 i ∧ vn = .bool note ∧ Hid (Own wr w.heap.size w.heap.size 34 vo xs) ∧
    Hid (scanR (s.data.toList.drop i) i note xs 0 = R) ∧ Below w.heap.size w wr)
  case atStart => exact ⟨0, false, [], Nat.zero_le _, by omega, Nat.zero_le _, rfl, rfl, Own.nil _ _ (Nat.le_refl _), HR.out.symm, Below.refl _ _⟩
  case round =>
    obtain ⟨i, note, xs, hi, hg, hxs, rfl, rfl, HO, HS, hw⟩ := hrel
    have hsz := hw.size
    by_cases hlt : i < s.size
    · have hlt' : (i : Int) < (s.size : Int) := by omega
      have hd := Lib.hid (data_drop s i hlt)
      have nn10 := Lib.hid (byte_neq (c := s[i]) (k := 10) (by omega))
      have hss := UInt8.toNat_lt s[i]
      have goOn : Hid ((note || s[i] == 37) = true → scanR (s.data.toList.drop (i + 1)) ↑(i + 1) (s[i] != 10) xs 0 = R) := fun h => by
        have := HS.out; rw [hd.out, scanR, if_pos h] at this; exact this
      have onBlank : Hid ((note || s[i] == 37) = false → blank s[i] = true → scanR (s.data.toList.drop (i + 1)) ↑(i + 1) false xs 0 = R) := fun h h' => by
        have := HS.out; rw [hd.out, scanR, if_neg (by simp [h]), if_pos h'] at this; exact this
      cases note with
      | true =>
        go_wp2_with fail
        go_roundg (s.size - (i + 1))
        case measure => omega
        case rel => exact ⟨i + 1, _, xs, by omega, by omega, by omega, by go_num, rfl, HO, by show scanR _ _ (((s[i].toNat : Nat) : Int) != ((10 : Nat) : Int)) _ _ = _; rw [nn10.out]; exact goOn.out (by simp), hw⟩
      | false =>
        by_cases e37 : s[i] = 37
        · have y37 : ((s[i].toNat : Int) == 37) = true := byte_eq (k := 37) (by omega) e37
          have E37 := Lib.hid e37
          clear e37
          go_wp2_with fail
          go_roundg (s.size - (i + 1))
          case measure => omega
          case rel => exact ⟨i + 1, _, xs, by omega, by omega, by omega, by go_num, rfl, HO, by show scanR _ _ (((s[i].toNat : Nat) : Int) != ((10 : Nat) : Int)) _ _ = _; rw [nn10.out]; exact goOn.out (by simp [E37.out]), hw⟩
        · have n37 : ((s[i].toNat : Int) == 37) = false := byte_ne (k := 37) (by omega) e37
          have N37 := Lib.hid e37
          clear e37 nn10
          by_cases hbl : blank s[i] = true
          · have BL := Lib.hid hbl
            simp only [blank, Bool.or_eq_true, beq_iff_eq] at hbl
            rcases hbl with (e | e) | e
            · have y32 : ((s[i].toNat : Int) == 32) = true := byte_eq (k := 32) (by omega) e
              clear e
              go_wp2_with fail
              all_goals
                go_roundg (s.size - (i + 1))
                case measure => omega
                case rel => exact ⟨i + 1, _, xs, by omega, by omega, by omega, by go_num, rfl, HO, by show _ = _; rw [onBlank.out (by simp [N37.out]) BL.out], hw⟩
            · have y9 : ((s[i].toNat : Int) == 9) = true := byte_eq (k := 9) (by omega) e
              have n32 : ((s[i].toNat : Int) == 32) = false := byte_ne (k := 32) (by omega) (by rw [e]; decide)
              clear e
              go_wp2_with fail
              all_goals
                go_roundg (s.size - (i + 1))
                case measure => omega
                case rel => exact ⟨i + 1, _, xs, by omega, by omega, by omega, by go_num, rfl, HO, by show _ = _; rw [onBlank.out (by simp [N37.out]) BL.out], hw⟩
            · have y10 : ((s[i].toNat : Int) == 10) = true := byte_eq (k := 10) (by omega) e
              have n32 : ((s[i].toNat : Int) == 32) = false := byte_ne (k := 32) (by omega) (by rw [e]; decide)
              have n9 : ((s[i].toNat : Int) == 9) = false := byte_ne (k := 9) (by omega) (by rw [e]; decide)
              clear e
              go_wp2_with fail
              all_goals
                go_roundg (s.size - (i + 1))
                case measure => omega
                case rel => exact ⟨i + 1, _, xs, by omega, by omega, by omega, by go_num, rfl, HO, by show _ = _; rw [onBlank.out (by simp [N37.out]) BL.out], hw⟩
          · have n32 : ((s[i].toNat : Int) == 32) = false := byte_ne (k := 32) (by omega) (by intro e; exact hbl (by simp [blank, e]))
            have n9 : ((s[i].toNat : Int) == 9) = false := byte_ne (k := 9) (by omega) (by intro e; exact hbl (by simp [blank, e]))
            have n10 : ((s[i].toNat : Int) == 10) = false := byte_ne (k := 10) (by omega) (by intro e; exact hbl (by simp [blank, e]))
            have hstep : Hid ((if tokBad (tokenAt (s.data.toList.drop i)).1 (tokenAt (s.data.toList.drop i)).2 s[i] = 0 then scanR (s.data.toList.drop (i + 1)) (i + 1) false (xs ++ [⟨(tokenAt (s.data.toList.drop i)).1, i, bs ((s.data.toList.drop i).take (tokenAt (s.data.toList.drop i)).2)⟩]) ((tokenAt (s.data.toList.drop i)).2 - 1) else ([], i, tokBad (tokenAt (s.data.toList.drop i)).1 (tokenAt (s.data.toList.drop i)).2 s[i])) = R) := by
              have := HS.out
              rw [hd.out, scanR, if_neg (by simp [N37.out]), if_neg hbl] at this
              show _ = _
              rw [hd.out]; exact this
            have hle := tokenAt_le (s.data.toList.drop i)
            have hpos := tokenAt_pos (s.data.toList.drop i)
            have hkk := tokenAt_kind (s.data.toList.drop i)
            have hcall := ref_at s i
            generalize hta : tokenAt (s.data.toList.drop i) = kn at hstep hle hpos hkk hcall
            obtain ⟨kd, n⟩ := kn
            simp only at hcall hstep hle hpos hkk
            simp only [List.length_drop, data_len] at hle
            have HC := Lib.hid hcall
            clear hcall hta hbl goOn onBlank
            have hin : i + n ≤ s.size := by omega
            have hxl : (s.extract i (i + n)).size = n := by rw [ByteArray.size_extract]; omega
            match kd, hkk with
            | 0, _ =>
              replace HC : Hid (∀ W, s.size ≤ 4000 → i < s.size → Calls Try.prog 56 #[.string s, .int .i64 i] W fun e w' => e = .returned (.tuple #[.int .i64 0, .int .i64 n]) ∧ W = w') := HC
              go_wp2_with (go_at_call 56; refine (HC.out _ hs hlt).mono ?_; rintro e w' ⟨rfl, rfl⟩)
              all_goals

                go_ret3
                have hfin := hstep.out
                have hbad : tokBad 0 n s[i] = 1 := by simp [tokBad]
                rw [hbad, if_neg (by decide)] at hfin
                rw [← hfin]
                exact ⟨_, rfl, fresh_nil _ _, hw⟩
            | 1, _ =>
              replace HC : Hid (∀ W, s.size ≤ 4000 → i < s.size → Calls Try.prog 56 #[.string s, .int .i64 i] W fun e w' => e = .returned (.tuple #[.int .i64 1, .int .i64 n]) ∧ W = w') := HC
              by_cases h12 : 12 < n
              · have hT : decide ((12 : Int) < (n : Int)) = true := by simp; omega
                go_wp2_with (go_at_call 56; refine (HC.out _ hs hlt).mono ?_; rintro e w' ⟨rfl, rfl⟩)
                all_goals
                  go_ret3
                  have hfin := hstep.out
                  have hbad : tokBad 1 n s[i] = 2 := by simp [tokBad, h12]
                  rw [hbad, if_neg (by decide)] at hfin
                  rw [← hfin]
                  exact ⟨_, rfl, fresh_nil _ _, hw⟩
              · have h12' : decide ((12 : Int) < (n : Int)) = false := by simp; omega
                go_wp2_with (first
                  | (go_at_call 56; refine (HC.out _ hs hlt).mono ?_; rintro e w' ⟨rfl, rfl⟩)
                  | (at_builtin
                     refine wpList_append_one (α := Tok) rfl _ _ rfl row_tok rfl HO.out rfl (by simp) (y := ⟨1, i, s.extract i (i + n)⟩) ⟨rfl, by unfold inI64; simp, by unfold inI64; simp; omega, by rw [ByteArray.size_extract]; simp; omega⟩ (by simp only [Rep.bytes]; omega) (by omega) (by first | omega | (simp; omega)) ?_
                     rintro v' w3 hown3 hg3 hb3
                     have HO3 := Lib.hid hown3
                     have HB3 := Lib.hid hb3
                     clear hown3 hg3 hb3))
                all_goals
                  have hn1 : 1 ≤ n := hpos (by decide)
                  have hS3 : Hid (scanR (s.data.toList.drop (i + n)) ↑(i + n) false (xs ++ [⟨1, i, s.extract i (i + n)⟩]) 0 = R) := by
                    have hfin := hstep.out
                    rw [if_pos (by simp [tokBad, h12]), ← extract_bs, scanR_skip (s.data.toList.drop (i + 1)) _ _ _ (n - 1) (by simp; omega), List.drop_drop, show i + 1 + (n - 1) = i + n from by omega] at hfin
                    exact hfin
                  have hB3 := hw.trans HB3.out
                  have hL3 : (xs ++ [(⟨1, i, s.extract i (i + n)⟩ : Tok)]).length ≤ i + n := by simp; omega
                  have hM3 : s.size - (i + n) < gk := by omega
                  clear HO HS HC hw hstep HB3
                  go_roundg (s.size - (i + n))
                  case measure => exact hM3
                  case rel => exact ⟨i + n, false, _, hin, Nat.le_refl _, hL3, (by go_num), rfl, HO3, hS3, hB3⟩
            | 2, _ =>
              replace HC : Hid (∀ W, s.size ≤ 4000 → i < s.size → Calls Try.prog 56 #[.string s, .int .i64 i] W fun e w' => e = .returned (.tuple #[.int .i64 2, .int .i64 n]) ∧ W = w') := HC
              by_cases h4 : 4 < n
              · have hT : decide ((4 : Int) < (n : Int)) = true := by simp; omega
                go_wp2_with (go_at_call 56; refine (HC.out _ hs hlt).mono ?_; rintro e w' ⟨rfl, rfl⟩)
                all_goals
                  go_ret3
                  have hfin := hstep.out
                  have hbad : tokBad 2 n s[i] = 2 := by simp [tokBad, h4]
                  rw [hbad, if_neg (by decide)] at hfin
                  rw [← hfin]
                  exact ⟨_, rfl, fresh_nil _ _, hw⟩
              · have h4' : decide ((4 : Int) < (n : Int)) = false := by simp; omega
                by_cases h1 : 1 < n
                · have hT : decide ((1 : Int) < (n : Int)) = true := by simp; omega
                  have x0 : ((s.extract i (i + n))[0]'(by omega)) = s[i] := ext0 s i n hin (by omega) (by omega)
                  by_cases e48 : s[i] = 48
                  · have y48 : ((((s.extract i (i + n))[0]'(by omega)).toNat : Int) == 48) = true := by rw [x0]; exact byte_eq (k := 48) (by omega) e48
                    have E48 := Lib.hid e48
                    clear e48 x0
                    go_wp2_with (go_at_call 56; refine (HC.out _ hs hlt).mono ?_; rintro e w' ⟨rfl, rfl⟩)
                    all_goals
                      go_ret3
                      have hfin := hstep.out
                      have hbad : tokBad 2 n s[i] = 1 := by simp [tokBad, h4, h1, E48.out]
                      rw [hbad, if_neg (by decide)] at hfin
                      rw [← hfin]
                      exact ⟨_, rfl, fresh_nil _ _, hw⟩
                  · have y48 : ((((s.extract i (i + n))[0]'(by omega)).toNat : Int) == 48) = false := by rw [x0]; exact byte_ne (k := 48) (by omega) e48
                    have E48 := Lib.hid e48
                    clear e48 x0
                    go_wp2_with (first
                      | (go_at_call 56; refine (HC.out _ hs hlt).mono ?_; rintro e w' ⟨rfl, rfl⟩)
                      | (at_builtin
                         refine wpList_append_one (α := Tok) rfl _ _ rfl row_tok rfl HO.out rfl (by simp) (y := ⟨2, i, s.extract i (i + n)⟩) ⟨rfl, by unfold inI64; simp, by unfold inI64; simp; omega, by rw [ByteArray.size_extract]; simp; omega⟩ (by simp only [Rep.bytes]; omega) (by omega) (by first | omega | (simp; omega)) ?_
                         rintro v' w3 hown3 hg3 hb3
                         have HO3 := Lib.hid hown3
                         have HB3 := Lib.hid hb3
                         clear hown3 hg3 hb3))
                    all_goals
                      have hn1 : 1 ≤ n := hpos (by decide)
                      have hS3 : Hid (scanR (s.data.toList.drop (i + n)) ↑(i + n) false (xs ++ [⟨2, i, s.extract i (i + n)⟩]) 0 = R) := by
                        have hfin := hstep.out
                        rw [if_pos (by simp [tokBad, h4, E48.out]), ← extract_bs, scanR_skip (s.data.toList.drop (i + 1)) _ _ _ (n - 1) (by simp; omega), List.drop_drop, show i + 1 + (n - 1) = i + n from by omega] at hfin
                        exact hfin
                      have hB3 := hw.trans HB3.out
                      have hL3 : (xs ++ [(⟨2, i, s.extract i (i + n)⟩ : Tok)]).length ≤ i + n := by simp; omega
                      have hM3 : s.size - (i + n) < gk := by omega
                      clear HO HS HC hw hstep HB3
                      go_roundg (s.size - (i + n))
                      case measure => exact hM3
                      case rel => exact ⟨i + n, false, _, hin, Nat.le_refl _, hL3, (by go_num), rfl, HO3, hS3, hB3⟩
                · have h1' : decide ((1 : Int) < (n : Int)) = false := by simp; omega
                  go_wp2_with (first
                    | (go_at_call 56; refine (HC.out _ hs hlt).mono ?_; rintro e w' ⟨rfl, rfl⟩)
                    | (at_builtin
                       refine wpList_append_one (α := Tok) rfl _ _ rfl row_tok rfl HO.out rfl (by simp) (y := ⟨2, i, s.extract i (i + n)⟩) ⟨rfl, by unfold inI64; simp, by unfold inI64; simp; omega, by rw [ByteArray.size_extract]; simp; omega⟩ (by simp only [Rep.bytes]; omega) (by omega) (by first | omega | (simp; omega)) ?_
                       rintro v' w3 hown3 hg3 hb3
                       have HO3 := Lib.hid hown3
                       have HB3 := Lib.hid hb3
                       clear hown3 hg3 hb3))
                  all_goals
                    have hn1 : 1 ≤ n := hpos (by decide)
                    have hS3 : Hid (scanR (s.data.toList.drop (i + n)) ↑(i + n) false (xs ++ [⟨2, i, s.extract i (i + n)⟩]) 0 = R) := by
                      have hfin := hstep.out
                      rw [if_pos (by simp [tokBad, h4, h1]), ← extract_bs, scanR_skip (s.data.toList.drop (i + 1)) _ _ _ (n - 1) (by simp; omega), List.drop_drop, show i + 1 + (n - 1) = i + n from by omega] at hfin
                      exact hfin
                    have hB3 := hw.trans HB3.out
                    have hL3 : (xs ++ [(⟨2, i, s.extract i (i + n)⟩ : Tok)]).length ≤ i + n := by simp; omega
                    have hM3 : s.size - (i + n) < gk := by omega
                    clear HO HS HC hw hstep HB3
                    go_roundg (s.size - (i + n))
                    case measure => exact hM3
                    case rel => exact ⟨i + n, false, _, hin, Nat.le_refl _, hL3, (by go_num), rfl, HO3, hS3, hB3⟩
            | 3, _ =>
              replace HC : Hid (∀ W, s.size ≤ 4000 → i < s.size → Calls Try.prog 56 #[.string s, .int .i64 i] W fun e w' => e = .returned (.tuple #[.int .i64 3, .int .i64 n]) ∧ W = w') := HC
              go_wp2_with (first
                | (go_at_call 56; refine (HC.out _ hs hlt).mono ?_; rintro e w' ⟨rfl, rfl⟩)
                | (at_builtin
                   refine wpList_append_one (α := Tok) rfl _ _ rfl row_tok rfl HO.out rfl (by simp) (y := ⟨3, i, s.extract i (i + n)⟩) ⟨rfl, by unfold inI64; simp, by unfold inI64; simp; omega, by rw [ByteArray.size_extract]; simp; omega⟩ (by simp only [Rep.bytes]; omega) (by omega) (by first | omega | (simp; omega)) ?_
                   rintro v' w3 hown3 hg3 hb3
                   have HO3 := Lib.hid hown3
                   have HB3 := Lib.hid hb3
                   clear hown3 hg3 hb3))
              all_goals
                have hn1 : 1 ≤ n := hpos (by decide)
                have hS3 : Hid (scanR (s.data.toList.drop (i + n)) ↑(i + n) false (xs ++ [⟨3, i, s.extract i (i + n)⟩]) 0 = R) := by
                  have hfin := hstep.out
                  rw [if_pos (by simp [tokBad]), ← extract_bs, scanR_skip (s.data.toList.drop (i + 1)) _ _ _ (n - 1) (by simp; omega), List.drop_drop, show i + 1 + (n - 1) = i + n from by omega] at hfin
                  exact hfin
                have hB3 := hw.trans HB3.out
                have hL3 : (xs ++ [(⟨3, i, s.extract i (i + n)⟩ : Tok)]).length ≤ i + n := by simp; omega
                have hM3 : s.size - (i + n) < gk := by omega
                clear HO HS HC hw hstep HB3
                go_roundg (s.size - (i + n))
                case measure => exact hM3
                case rel => exact ⟨i + n, false, _, hin, Nat.le_refl _, hL3, (by go_num), rfl, HO3, hS3, hB3⟩
    · have hlt' : ¬ (i : Int) < (s.size : Int) := by omega
      go_wp2_with fail
      go_ret3
      have hfin := HS.out
      rw [List.drop_of_length_le (by simpa using hlt), scanR] at hfin
      rw [← hfin]
      exact ⟨_, rfl, HO.out.fresh, hw⟩
end Go.Proofs.Ytonkbljpcgadlaa
