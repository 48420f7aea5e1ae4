/- The walk of Scan. -/
import Derived.Test.YtonkbljpcgadlaaTok5
namespace Go.Proofs.Ytonkbljpcgadlaa
open Go.RowKit
set_option linter.unusedVariables false

theorem row_tok : RowInfo Try.prog 22 34 3 32 := RowInfo.mk' Try.underlying22 (z := .agg #[.int .i64 0, .int .i64 0, .string ⟨#[]⟩]) (by kernel_rfl) rfl

theorem scan_big (s : ByteArray) (w : World) (hs : 4000 < s.size) : Calls Try.prog 13 #[.string s] w fun e w' => e = .returned (.tuple #[.slice none 0 0, .int .i64 0, .int .i64 2]) ∧ w = w' := by
  go_enter Try.func13, Try.ntmps13
  go_wp2_with fail
  go_ret3
  exact ⟨rfl, rfl⟩

theorem own_beside {α : Type} [Rep α] {w w' : World} {lo base g : Nat} {E : TypeId} {v : Value} {xs : List α} (h : Own w lo base E v xs) (hg : w.grownBy w' (some g)) (hlt : g < lo) : Own w' lo base E v xs :=
  h.kept hg.size fun b hb hb' => hg.block b hb' fun e => by injection e with e; omega
theorem fresh_nil {α : Type} [Rep α] (w : World) (B : Nat) : Fresh w B (.slice none 0 0) ([] : List α) :=
  ⟨[_], rfl, none, 0, rfl, by simp, by simp, by simp, fun _ => rfl, fun h => absurd h (by simp)⟩
theorem extract_bs (s : ByteArray) (i n : Nat) : s.extract i (i + n) = bs ((s.data.toList.drop i).take n) := by
  apply ByteArray.ext
  rw [ByteArray.data_extract]
  apply Array.ext'
  simp only [Array.toList_extract, List.extract_eq_take_drop, bs]
  congr 1; omega

theorem skipN_zero : ∀ (l : List UInt8) (note : Bool), skipN (l.drop (skipN l note)) false = 0 := by
  intro l note
  cases h : l.drop (skipN l note) with
  | nil => rfl
  | cons c r =>
    obtain ⟨h1, h2⟩ := skipN_next l note c r h
    rw [skipN, if_neg (by simpa using h1), if_neg (by simp [h2])]

set_option maxHeartbeats 1000000 in
theorem scan_small (s : ByteArray) (w : World) (hs : s.size ≤ 4000) : Calls Try.prog 13 #[.string s] w fun e w' =>
    ∃ v, e = .returned (.tuple #[v, .int .i64 (scanR s.data.toList 0 false [] 0).2.1, .int .i64 (scanR s.data.toList 0 false [] 0).2.2]) ∧ Fresh w' w.heap.size v (scanR s.data.toList 0 false [] 0).1 ∧ Below w.heap.size w w' := by
  obtain ⟨R, hR⟩ : ∃ R, R = scanR s.data.toList 0 false [] 0 := ⟨_, rfl⟩
  rw [← hR]
  have HR := Lib.hid hR
  clear hR
  go_enter Try.func13, Try.ntmps13
  go_wp2_with (go_at_call 54; refine (skip_any w.heap.size s 0 _ hs (by omega) (Blk.new' _ _ rfl)).mono ?_; rintro e w1 ⟨rfl, hb1, hg1⟩)
  have hh : 0 + skipN (s.data.toList.drop 0) false ≤ s.size := by have := skipN_le (s.data.toList.drop 0) false; simpa using this
  obtain ⟨i0, hi0⟩ : ∃ i0, i0 = 0 + skipN (s.data.toList.drop 0) false := ⟨_, rfl⟩
  rw [← hi0] at hb1 hh
  have HB1 := Lib.hid hb1
  have hr0 : Hid (scanR (s.data.toList.drop i0) i0 false [] 0 = R ∧ skipN (s.data.toList.drop i0) false = 0) := by
    show _ ∧ _
    rw [HR.out, scanR_blanks s.data.toList 0 false []]
    simp only [List.drop_zero, Nat.zero_add] at hi0
    rw [hi0, Nat.zero_add]
    exact ⟨rfl, skipN_zero _ _⟩
  have hw1 : Below w.heap.size w w1 := below_of_only (only_trans (only_of_below (by (repeat' (first | (with_reducible exact Below.refl _ _) | (with_reducible assumption) | (with_reducible refine below_drewN ?_ _) | (with_reducible refine Below.alloc ?_ ?_ _) | (with_reducible refine Below.setCell ?_ ?_ _) | (with_reducible refine Below.drew ?_) | go_size))) (some w.heap.size)) hg1) (Nat.le_refl _) (Nat.le_refl _)
  have hsz1 : w.heap.size + 1 ≤ w1.heap.size := hb1.lt
  clear hi0 hb1 hg1
  go_loopg [6] s.size (fun n v wr => ∃ (i : Nat) (xs : List Tok), i ≤ s.size ∧ s.size - i ≤ n ∧ xs.length ≤ i ∧ Hid (Blk wr w.heap.size 86 #[.string s, .int .i64 i]) ∧ Hid (Own wr (w.heap.size + 1) (w.heap.size + 1) 34 v xs) ∧
    Hid (scanR (s.data.toList.drop i) i false xs 0 = R ∧ skipN (s.data.toList.drop i) false = 0) ∧ Below w.heap.size w wr ∧ w.heap.size + 1 ≤ wr.heap.size)
  case atStart => exact ⟨i0, [], hh, by omega, Nat.zero_le _, HB1.out, Own.nil _ _ (Nat.le_refl _), hr0, hw1, hsz1⟩
  case round =>
    obtain ⟨i, xs, hi, hm, hxs, HB, HO, HS, hw, hsz⟩ := hrel
    clear hr0 HB1 hw1 hsz1 hh
    have c1 : wr.cell? ⟨w.heap.size, 1, none⟩ = some (.int .i64 i) := HB.out.cell 1
    by_cases hlt : i < s.size
    · have hlt' : (i : Int) < (s.size : Int) := by omega
      have hd := Lib.hid (data_drop s i hlt)
      have hnx := skipN_next (s.data.toList.drop i) false s[i] (s.data.toList.drop (i + 1)) (by rw [HS.out.2, List.drop_zero]; exact hd.out)
      have hstep : Hid (scanR (s.data.toList.drop i) i false xs 0 = if tokBad (tokenAt (s.data.toList.drop i)).1 (tokenAt (s.data.toList.drop i)).2 s[i] = 0 then scanR (s.data.toList.drop (i + 1)) (i + 1) false (xs ++ [⟨(tokenAt (s.data.toList.drop i)).1, i, bs ((s.data.toList.drop i).take (tokenAt (s.data.toList.drop i)).2)⟩]) ((tokenAt (s.data.toList.drop i)).2 - 1) else ([], i, tokBad (tokenAt (s.data.toList.drop i)).1 (tokenAt (s.data.toList.drop i)).2 s[i])) := by
        show _ = _
        rw [hd.out, scanR, if_neg (by simpa using hnx.1), if_neg (by simp [hnx.2])]
      have hle := tokenAt_le (s.data.toList.drop i)
      have hpos := tokenAt_pos (s.data.toList.drop i)
      have hkk := tokenAt_kind (s.data.toList.drop i)
      generalize hta : tokenAt (s.data.toList.drop i) = kn at hstep hle hpos hkk
      obtain ⟨kd, n⟩ := kn
      have hcall := token_any w.heap.size s i wr hs hlt HB.out
      rw [hta] at hcall
      simp only at hcall hstep hle hpos hkk
      generalize hbd : tokBad kd n s[i] = bd at hcall hstep
      have HC := Lib.hid hcall
      have HTA := Lib.hid hta
      have HBD := Lib.hid hbd
      clear hcall hta hbd hnx
      by_cases hb0 : bd = 0
      · subst hb0
        go_wp2_with (first
          | (go_at_call 55
             refine HC.out.mono ?_
             rintro e w2 ⟨k, x, rfl, hg2, hok⟩
             obtain ⟨rfl, rfl, hbl⟩ := hok rfl
             have hown2 := Lib.hid (own_beside HO.out hg2 (by omega))
             have HBL := Lib.hid hbl
             have HG2 := Lib.hid hg2
             have hsz2 := hg2.size
             clear hok hbl hg2)
          | (at_builtin
             refine wpList_append_one (α := Tok) rfl (.tmp 36) (.tmp 38) rfl row_tok rfl (hown2.out.alloc _) rfl (by simp) (y := ⟨kd, i, s.extract i (i + n)⟩) ⟨rfl, by unfold inI64; simp; omega, by unfold inI64; simp; omega, by rw [ByteArray.size_extract]; simp; omega⟩ (by simp only [Rep.bytes]; omega) (by omega) (by simp; omega) ?_
             rintro v' w3 hown3 hg3 hb3
             have HO3 := Lib.hid hown3
             have hbl3 : Blk w3 w.heap.size 86 #[.string s, .int .i64 ↑(i + n)] := Blk.below (HBL.out.alloc _) hb3 (by omega)
             have HBL3 := Lib.hid hbl3
             have HB3 := Lib.hid hb3
             clear hown3 hg3 hbl3 hb3))
        have hn1 : 1 ≤ n := hpos (by intro h; subst h; have := HBD.out; simp [tokBad] at this)
        have hln : i + n ≤ s.size := by simp at hle; omega
        refine (skip_any w.heap.size s (i + n) w3 hs hln HBL3.out).mono ?_
        rintro e w4 ⟨rfl, hb4, hg4⟩
        have hsk := skipN_le (s.data.toList.drop (i + n)) false
        have hsk0 := skipN_zero (s.data.toList.drop (i + n)) false
        rw [List.drop_drop] at hsk0
        obtain ⟨i2, hi2⟩ : ∃ i2, i2 = i + n + skipN (s.data.toList.drop (i + n)) false := ⟨_, rfl⟩
        rw [← hi2] at hb4 hsk0
        have hi2l : i2 ≤ s.size := by simp at hsk; omega
        have HI2 := Lib.hid hi2
        have hge : i + n ≤ i2 := by omega
        clear hi2 hsk
        have hO4 : Hid (Own w4 (w.heap.size + 1) (w.heap.size + 1) 34 v' (xs ++ [⟨kd, i, s.extract i (i + n)⟩])) := own_beside HO3.out hg4 (by omega)
        have hS4 : Hid (scanR (s.data.toList.drop i2) i2 false (xs ++ [⟨kd, i, s.extract i (i + n)⟩]) 0 = R ∧ skipN (s.data.toList.drop i2) false = 0) := by
          refine ⟨?_, hsk0⟩
          rw [← HS.out.1, hstep.out, if_pos (by first | exact HBD.out | trivial), ← extract_bs, scanR_skip (s.data.toList.drop (i + 1)) _ _ _ (n - 1) (by simp; omega), List.drop_drop,
              show i + 1 + (n - 1) = i + n from by omega, scanR_blanks (s.data.toList.drop (i + n)), List.drop_drop, ← HI2.out]
        have z3 := HB3.out.size
        have z4 := hg4.size
        simp only [World.size_alloc] at z3
        have hB4 : Below w.heap.size w w4 := by
          have b1 := hw.trans (below_of_only HG2.out (Nat.le_refl _) (by omega))
          have b2 : Below w.heap.size w w3 := (b1.alloc (by omega) _).trans (HB3.out.mono (by omega))
          exact b2.trans (below_of_only hg4 (Nat.le_refl _) (by omega))
        have hlen4 : (xs ++ [(⟨kd, i, s.extract i (i + n)⟩ : Tok)]).length ≤ i2 := by simp; omega
        have hsz4 : w.heap.size + 1 ≤ w4.heap.size := by omega
        have HBL4 := Lib.hid hb4
        clear hg4 hb4 HO3 HBL3 HB3 hsk0
        go_wp2_with fail
        go_roundg (s.size - i2)
        case measure => omega
        case rel => exact ⟨i2, _, hi2l, Nat.le_refl _, hlen4, HBL4, hO4, hS4, hB4, hsz4⟩
      · have hb0' : (bd != 0) = true := by simp [hb0]
        have H0 := Lib.hid hb0
        clear hb0
        go_wp2_with (go_at_call 55; refine (HC.out).mono ?_; rintro e w2 ⟨k, x, rfl, hg2, hok⟩)
        go_quiet (fail)
        go_wp2_with fail
        go_ret3
        have hfin := HS.out.1
        rw [hstep.out, if_neg H0.out] at hfin
        rw [← hfin]
        have hsz2 := hg2.size
        have hwx := hw.trans (below_of_only hg2 (Nat.le_refl _) (by omega))
        exact ⟨_, rfl, fresh_nil _ _, by (repeat' (first | (with_reducible exact Below.refl _ _) | (with_reducible assumption) | (with_reducible refine below_drewN ?_ _) | (with_reducible refine Below.alloc ?_ ?_ _) | (with_reducible refine Below.setCell ?_ ?_ _) | (with_reducible refine Below.drew ?_) | go_size))⟩
    · have hlt' : ¬ (i : Int) < (s.size : Int) := by omega
      go_wp2_with fail
      go_ret3
      have hfin := HS.out.1
      rw [List.drop_of_length_le (by simpa using hlt), scanR] at hfin
      rw [← hfin]
      exact ⟨_, rfl, HO.out.fresh.more (by omega), by (repeat' (first | (with_reducible exact Below.refl _ _) | (with_reducible assumption) | (with_reducible refine below_drewN ?_ _) | (with_reducible refine Below.alloc ?_ ?_ _) | (with_reducible refine Below.setCell ?_ ?_ _) | (with_reducible refine Below.drew ?_) | go_size))⟩
end Go.Proofs.Ytonkbljpcgadlaa
