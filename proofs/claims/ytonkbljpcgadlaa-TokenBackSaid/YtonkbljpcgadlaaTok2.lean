/- The walks of the scanner's own methods: sign, run; the two-sign signs. -/
import Derived.Test.YtonkbljpcgadlaaTok1
import Derived.Test.YtonkbljpcgadlaaIdx
import Derived.Test.YtonkbljpcgadlaaShelf
namespace Go.Proofs.Ytonkbljpcgadlaa
open Go.RowKit
set_option linter.unusedVariables false

/-- The sign that stands here; 0: the text ends. -/
def signN (l : List UInt8) : Nat := match l with | [] => 0 | c :: _ => c.toNat

set_option maxHeartbeats 400000 in
theorem sign_any (g : Nat) (s : ByteArray) (i : Nat) (w : World) (hs : s.size ≤ 4000) (h0 : i < s.size) (hb : Blk w g 86 #[.string s, .int .i64 i]) :
    Calls Try.prog 95 #[.pointer (some ⟨g, 0, none⟩)] w fun e w' => e = .returned (.int .u8 s[i].toNat) ∧ ∃ q, w' = w.drewN q := by
  have c0 : w.cell? ⟨g, 0, none⟩ = some (.string s) := hb.cell 0
  have c1 : w.cell? ⟨g, 1, none⟩ = some (.int .i64 i) := hb.cell 1
  have hlt' : (i : Int) < (s.size : Int) := by omega
  clear hb
  go_enter Try.func95, Try.ntmps95
  go_wp2
  go_quiet (fail)
  go_wp2
  go_quiet (fail)
  go_wp2
  go_ret
  exact ⟨rfl, _, World.drewN_drewN _ _ _⟩

theorem tw_in {p : UInt8 → Bool} {l : List UInt8} {c : UInt8} {j n : Nat} (hd : l.drop j = c :: l.drop (j + 1)) (hp : p c = true) (h : j + ((l.drop j).takeWhile p).length = n) : j + 1 + ((l.drop (j + 1)).takeWhile p).length = n := by
  rw [hd, List.takeWhile_cons, if_pos hp] at h; simp at h; omega
theorem tw_out {p : UInt8 → Bool} {l : List UInt8} {c : UInt8} {j n : Nat} (hd : l.drop j = c :: l.drop (j + 1)) (hp : p c = false) (h : j + ((l.drop j).takeWhile p).length = n) : j = n := by
  rw [hd, List.takeWhile_cons, if_neg (by simp [hp])] at h; simp at h; omega
theorem tw_end {p : UInt8 → Bool} {l : List UInt8} {j n : Nat} (hl : l.length ≤ j) (h : j + ((l.drop j).takeWhile p).length = n) : j = n := by
  rw [List.drop_of_length_le hl] at h; simpa using h
theorem tw_le {p : UInt8 → Bool} {l : List UInt8} {j : Nat} (hj : j ≤ l.length) : j + ((l.drop j).takeWhile p).length ≤ l.length := by
  have := (List.takeWhile_sublist p (l := l.drop j)).length_le
  simp at this; omega

set_option maxHeartbeats 1000000 in
/-- A run of bytes of which a function says that they go on. -/
theorem run_any (F : FuncId) (p : Nat → Bool) (eg : ∀ args w, (callFunc F args).run Try.prog w = .ok (.enter F args) w) (hf : ∀ n : Nat, n < 256 → ∀ W, Calls Try.prog F #[.int .u8 n] W fun e w' => e = .returned (.bool (p n)) ∧ W = w')
    (g : Nat) (s : ByteArray) (i : Nat) (w : World) (hs : s.size ≤ 4000) (h0 : i ≤ s.size) (hb : Blk w g 86 #[.string s, .int .i64 i]) :
    Calls Try.prog 97 #[.pointer (some ⟨g, 0, none⟩), .func (.func F) #[] #[]] w fun e w' =>
      e = .returned (.string (s.extract i (i + ((s.data.toList.drop i).takeWhile fun c => p c.toNat).length))) ∧
      Blk w' g 86 #[.string s, .int .i64 ↑(i + ((s.data.toList.drop i).takeWhile fun c => p c.toNat).length)] ∧ w.grownBy w' (some g) := by
  have cc0 : w.cell? ⟨g, 0, none⟩ = some (.string s) := hb.cell 0
  have cc1 : w.cell? ⟨g, 1, none⟩ = some (.int .i64 i) := hb.cell 1
  have hle := tw_le (p := fun c => p c.toNat) (l := s.data.toList) (j := i) (by simpa using h0)
  rw [data_len] at hle
  have HB := Lib.hid hb
  have HF := Lib.hid hf
  clear hf hb
  generalize hn : i + ((s.data.toList.drop i).takeWhile fun c => p c.toNat).length = n at hle
  have HN := Lib.hid hn
  have hin : i ≤ n := by omega
  clear hn
  go_enter Try.func97, Try.ntmps97
  go_wp2_with fail
  go_loopg [] (s.size) (fun k wr => ∃ j : Nat, i ≤ j ∧ j ≤ s.size ∧ s.size - j ≤ k ∧ Hid (Blk wr g 86 #[.string s, .int .i64 j]) ∧ Hid (j + ((s.data.toList.drop j).takeWhile fun c => p c.toNat).length = n) ∧ w.grownBy wr (some g))
  case atStart => exact ⟨i, Nat.le_refl _, h0, by omega, HB.out, HN.out, World.grownBy.refl _ _⟩
  case round =>
    obtain ⟨j, hij, hj, hk, hB, hE, hG⟩ := hrel
    have c0 : wr.cell? ⟨g, 0, none⟩ = some (.string s) := hB.out.cell 0
    have c1 : wr.cell? ⟨g, 1, none⟩ = some (.int .i64 j) := hB.out.cell 1
    have f1 : wr.frozen? ⟨g, 1, none⟩ = false := hB.out.frozen 1
    clear cc0 cc1
    by_cases hlt : j < s.size
    · have hlt' : (j : Int) < (s.size : Int) := by omega
      have hd := Lib.hid (data_drop s j hlt)
      have hc := fun W => HF.out s[j].toNat (UInt8.toNat_lt _) W
      cases hp : p s[j].toNat with
      | true =>
        simp only [hp] at hc
        have HC := Lib.hid hc
        have HP := Lib.hid hp
        clear hc hp
        go_wp2_with fail
        go_quiet ((go_at_fn F; exact quiet_left (HC.out _)))
        go_wp2_with fail
        go_roundg (s.size - (j + 1))
        case measure => omega
        case rel => exact ⟨j + 1, by omega, by omega, by omega, (hB.out.drewN _).set_ 1 _, tw_in hd.out HP.out hE.out, only_setCell (only_drewN hG _) (.inl rfl) _⟩
      | false =>
        simp only [hp] at hc
        have HC := Lib.hid hc
        have HP := Lib.hid hp
        clear hc hp
        go_wp2_with fail
        go_quiet ((go_at_fn F; exact quiet_left (HC.out _)))
        go_wp2_with fail
        go_quiet (fail)
        go_wp2_with fail
        go_ret
        obtain rfl := tw_out (p := fun c => p c.toNat) hd.out HP.out hE.out
        exact ⟨rfl, (hB.out.drewN _).drewN _, only_drewN (only_drewN hG _) _⟩
    · have hlt' : decide ((j : Int) < (s.size : Int)) = false := by simp; omega
      go_wp2_with fail
      go_quiet (fail)
      go_wp2_with fail
      go_quiet (fail)
      go_wp2_with fail
      go_ret
      obtain rfl := tw_end (by simpa using hlt) hE.out
      exact ⟨rfl, (hB.out.drewN _).drewN _, only_drewN (only_drewN hG _) _⟩
end Go.Proofs.Ytonkbljpcgadlaa
