/- The walk of the scanner's token. -/
import Derived.Test.YtonkbljpcgadlaaTok2
namespace Go.Proofs.Ytonkbljpcgadlaa
open Go.RowKit
set_option linter.unusedVariables false

theorem enters_word : ∀ args w, (callFunc 98 args).run Try.prog w = .ok (.enter 98 args) w := fun _ _ => by kernel_rfl
theorem enters_digit : ∀ args w, (callFunc 99 args).run Try.prog w = .ok (.enter 99 args) w := fun _ _ => by kernel_rfl

theorem Blk.new' {w : World} {g : Nat} (t : TypeId) (cs : Array Value) (h : g = w.heap.size) : Blk (w.alloc (.cells cs t)) g t cs := by subst h; exact Blk.new w t cs

theorem Blk.far' {w : World} {g : Nat} {t : TypeId} {cs : Array Value} {p : Addr} {u : Value} (hp : g ≠ p.block) (h : Blk w g t cs) : Blk (w.setCell p u) g t cs := h.far hp u
theorem Blk.set' {w : World} {g i : Nat} {t : TypeId} {cs cs' : Array Value} {u : Value} (e : cs.setIfInBounds i u = cs') (h : Blk w g t cs) : Blk (w.setCell ⟨g, i, none⟩ u) g t cs' := by subst e; exact h.set_ i u

set_option maxHeartbeats 1000000 in
theorem token_letter (g : Nat) (s : ByteArray) (i : Nat) (w : World) (hs : s.size ≤ 4000) (h0 : i < s.size) (hb : Blk w g 86 #[.string s, .int .i64 i]) (hl : isLN s[i].toNat = true) :
    Calls Try.prog 55 #[.pointer (some ⟨g, 0, none⟩)] w fun e w' => ∃ n er, e = .returned (.tuple #[.agg #[.int .i64 1, .int .i64 i, .string (s.extract i (i + n))], .int .i64 er]) ∧
      n = ((s.data.toList.drop i).takeWhile fun c => isLN c.toNat || isDN c.toNat).length ∧ er = (if n > 12 then 2 else 0) ∧ Blk w' g 86 #[.string s, .int .i64 ↑(i + n)] ∧ w.grownBy w' (some g) := by
  have HB := Lib.hid hb
  have c0 : w.cell? ⟨g, 0, none⟩ = some (.string s) := hb.cell 0
  have c1 : w.cell? ⟨g, 1, none⟩ = some (.int .i64 i) := hb.cell 1
  have hgl := hb.lt
  have hss := UInt8.toNat_lt s[i]
  have hle := tw_le (p := fun c => isLN c.toNat || isDN c.toNat) (l := s.data.toList) (j := i) (by simp; omega)
  clear hb
  obtain ⟨n, hn⟩ : ∃ n, n = ((s.data.toList.drop i).takeWhile fun c => isLN c.toNat || isDN c.toNat).length := ⟨_, rfl⟩
  rw [data_len, ← hn] at hle
  have HN := Lib.hid hn
  clear hn
  have hrun : ∀ W, Blk W g 86 #[.string s, .int .i64 i] → Calls Try.prog 97 #[.pointer (some ⟨g, 0, none⟩), .func (.func 98) #[] #[]] W fun e w' =>
      e = .returned (.string (s.extract i (i + n))) ∧ Blk w' g 86 #[.string s, .int .i64 ↑(i + n)] ∧ W.grownBy w' (some g) := fun W hW => by
    have := run_any 98 (fun n => isLN n || isDN n) enters_word word_any g s i W hs (by omega) hW
    rw [← HN.out] at this; exact this
  have HR := Lib.hid hrun
  clear hrun
  have hsz : (s.extract i (i + n)).size = n := by rw [ByteArray.size_extract]; omega
  go_enter Try.func55, Try.ntmps55
  go_wp2_with (first
    | (go_at_call 95; refine (sign_any g s i _ hs h0 (by have := HB.out; (repeat' (first | (with_reducible assumption) | (with_reducible refine Blk.drewN ?_ _) | (with_reducible refine Blk.alloc ?_ _) | (with_reducible refine Blk.drew ?_) | (with_reducible refine Blk.far' ?_ ?_; (first | (simp; done) | (simp; omega) | omega)) | (with_reducible apply Blk.set'; rotate_left) | rfl)))).mono ?_; rintro e w' ⟨rfl, q, rfl⟩)
    | (go_at_call 96; refine (letter_any _ (by assumption) _).mono ?_; rintro e w' ⟨rfl, rfl⟩))
  refine (HR.out _ (by have := HB.out; (repeat' (first | (with_reducible assumption) | (with_reducible refine Blk.drewN ?_ _) | (with_reducible refine Blk.alloc ?_ _) | (with_reducible refine Blk.drew ?_) | (with_reducible refine Blk.far' ?_ ?_; (first | (simp; done) | (simp; omega) | omega)) | (with_reducible apply Blk.set'; rotate_left) | rfl)))).mono ?_
  rintro e w1 ⟨rfl, hb1, hg1⟩
  have bt : Blk w1 (w.heap.size + 1 + 1) 34 _ := (((Blk.new' _ _ (by simp)).drewN _).set_ 0 _).grown hg1 (by simp; omega)
  have br : Blk w1 (w.heap.size + 1) 34 _ := ((((Blk.new' _ _ (by simp)).alloc _).drewN _).far (by simp) _).grown hg1 (by simp; omega)
  have t0 : w1.cell? ⟨w.heap.size + 1 + 1, 0, none⟩ = some (.int .i64 1) := bt.cell 0
  have t1 : w1.cell? ⟨w.heap.size + 1 + 1, 1, none⟩ = some (.int .i64 i) := bt.cell 1
  have t2 : w1.cell? ⟨w.heap.size + 1 + 1, 2, none⟩ = some (.string ⟨#[]⟩) := bt.cell 2
  have r0 : w1.cell? ⟨w.heap.size + 1, 0, none⟩ = some (.int .i64 0) := br.cell 0
  have r1 : w1.cell? ⟨w.heap.size + 1, 1, none⟩ = some (.int .i64 0) := br.cell 1
  have r2 : w1.cell? ⟨w.heap.size + 1, 2, none⟩ = some (.string ⟨#[]⟩) := br.cell 2
  have ft : ∀ k, w1.frozen? ⟨w.heap.size + 1 + 1, k, none⟩ = false := bt.frozen
  have fr : ∀ k, w1.frozen? ⟨w.heap.size + 1, k, none⟩ = false := br.frozen
  have hg0 : w.grownBy w1 (some g) := only_trans (only_of_below (by (repeat' (first | (with_reducible exact Below.refl _ _) | (with_reducible assumption) | (with_reducible refine below_drewN ?_ _) | (with_reducible refine Below.alloc ?_ ?_ _) | (with_reducible refine Below.setCell ?_ ?_ _) | (with_reducible refine Below.drew ?_) | go_size))) (some g)) hg1
  have hsz1 : w.heap.size + 1 + 1 < w1.heap.size := bt.lt
  clear hg1 bt br c0 c1
  by_cases h12 : 12 < n
  · go_wp2_with fail
    refine bodyPost_ret (v := .tuple #[.agg #[.int .i64 1, .int .i64 i, .string (s.extract i (i + n))], .int .i64 2]) (by simp [results, Try.results55, go_sem, r0, r1, r2]) rfl ⟨n, 2, rfl, HN.out, by rw [if_pos h12], ?_, ?_⟩
    · have := hb1; (repeat' (first | (with_reducible assumption) | (with_reducible refine Blk.drewN ?_ _) | (with_reducible refine Blk.alloc ?_ _) | (with_reducible refine Blk.drew ?_) | (with_reducible refine Blk.far' ?_ ?_; (first | (simp; done) | (simp; omega) | omega)) | (with_reducible apply Blk.set'; rotate_left) | rfl))
    · (repeat' (first | (with_reducible assumption) | (with_reducible exact World.grownBy.refl _ _) | (with_reducible refine only_drewN ?_ _) | (with_reducible refine only_alloc ?_ _) | (with_reducible refine only_setCell ?_ ?_ _) | (with_reducible refine only_drew ?_) | (exact .inl rfl) | (refine .inr ?_; simp; done) | (refine .inr ?_; simp; omega) | (refine .inr ?_; omega)))
  · go_wp2_with fail
    refine bodyPost_ret (v := .tuple #[.agg #[.int .i64 1, .int .i64 i, .string (s.extract i (i + n))], .int .i64 0]) (by simp [results, Try.results55, go_sem, r0, r1, r2]) rfl ⟨n, 0, rfl, HN.out, by rw [if_neg h12], ?_, ?_⟩
    · have := hb1; (repeat' (first | (with_reducible assumption) | (with_reducible refine Blk.drewN ?_ _) | (with_reducible refine Blk.alloc ?_ _) | (with_reducible refine Blk.drew ?_) | (with_reducible refine Blk.far' ?_ ?_; (first | (simp; done) | (simp; omega) | omega)) | (with_reducible apply Blk.set'; rotate_left) | rfl))
    · (repeat' (first | (with_reducible assumption) | (with_reducible exact World.grownBy.refl _ _) | (with_reducible refine only_drewN ?_ _) | (with_reducible refine only_alloc ?_ _) | (with_reducible refine only_setCell ?_ ?_ _) | (with_reducible refine only_drew ?_) | (exact .inl rfl) | (refine .inr ?_; simp; done) | (refine .inr ?_; simp; omega) | (refine .inr ?_; omega)))
set_option maxHeartbeats 1000000 in
theorem token_digit (g : Nat) (s : ByteArray) (i : Nat) (w : World) (hs : s.size ≤ 4000) (h0 : i < s.size) (hb : Blk w g 86 #[.string s, .int .i64 i]) (hl0 : isLN s[i].toNat = false) (hl : isDN s[i].toNat = true) :
    Calls Try.prog 55 #[.pointer (some ⟨g, 0, none⟩)] w fun e w' => ∃ n er, e = .returned (.tuple #[.agg #[.int .i64 2, .int .i64 i, .string (s.extract i (i + n))], .int .i64 er]) ∧
      n = ((s.data.toList.drop i).takeWhile fun c => isDN c.toNat).length ∧ er = (if n > 4 then 2 else if n > 1 ∧ s[i] = 48 then 1 else 0) ∧ Blk w' g 86 #[.string s, .int .i64 ↑(i + n)] ∧ w.grownBy w' (some g) := by
  have HB := Lib.hid hb
  have c0 : w.cell? ⟨g, 0, none⟩ = some (.string s) := hb.cell 0
  have c1 : w.cell? ⟨g, 1, none⟩ = some (.int .i64 i) := hb.cell 1
  have hgl := hb.lt
  have hss := UInt8.toNat_lt s[i]
  have hle := tw_le (p := fun c => isDN c.toNat) (l := s.data.toList) (j := i) (by simp; omega)
  clear hb
  obtain ⟨n, hn⟩ : ∃ n, n = ((s.data.toList.drop i).takeWhile fun c => isDN c.toNat).length := ⟨_, rfl⟩
  rw [data_len, ← hn] at hle
  have HN := Lib.hid hn
  clear hn
  have hrun : ∀ W, Blk W g 86 #[.string s, .int .i64 i] → Calls Try.prog 97 #[.pointer (some ⟨g, 0, none⟩), .func (.func 99) #[] #[]] W fun e w' =>
      e = .returned (.string (s.extract i (i + n))) ∧ Blk w' g 86 #[.string s, .int .i64 ↑(i + n)] ∧ W.grownBy w' (some g) := fun W hW => by
    have := run_any 99 (fun n => isDN n) enters_digit digit_any g s i W hs (by omega) hW
    rw [← HN.out] at this; exact this
  have HR := Lib.hid hrun
  clear hrun
  have hsz : (s.extract i (i + n)).size = n := by rw [ByteArray.size_extract]; omega
  go_enter Try.func55, Try.ntmps55
  go_wp2_with (first
    | (go_at_call 95; refine (sign_any g s i _ hs h0 (by have := HB.out; (repeat' (first | (with_reducible assumption) | (with_reducible refine Blk.drewN ?_ _) | (with_reducible refine Blk.alloc ?_ _) | (with_reducible refine Blk.drew ?_) | (with_reducible refine Blk.far' ?_ ?_; (first | (simp; done) | (simp; omega) | omega)) | (with_reducible apply Blk.set'; rotate_left) | rfl)))).mono ?_; rintro e w' ⟨rfl, q, rfl⟩)
    | (go_at_call 96; refine (letter_any _ (by assumption) _).mono ?_; rintro e w' ⟨rfl, rfl⟩)
    | (go_at_call 99; refine (digit_any _ (by assumption) _).mono ?_; rintro e w' ⟨rfl, rfl⟩))
  refine (HR.out _ (by have := HB.out; (repeat' (first | (with_reducible assumption) | (with_reducible refine Blk.drewN ?_ _) | (with_reducible refine Blk.alloc ?_ _) | (with_reducible refine Blk.drew ?_) | (with_reducible refine Blk.far' ?_ ?_; (first | (simp; done) | (simp; omega) | omega)) | (with_reducible apply Blk.set'; rotate_left) | rfl)))).mono ?_
  rintro e w1 ⟨rfl, hb1, hg1⟩
  have bt : Blk w1 (w.heap.size + 1 + 1) 34 _ := (((Blk.new' _ _ (by simp)).drewN _).set_ 0 _).grown hg1 (by simp; omega)
  have br : Blk w1 (w.heap.size + 1) 34 _ := ((((Blk.new' _ _ (by simp)).alloc _).drewN _).far (by simp) _).grown hg1 (by simp; omega)
  have t0 : w1.cell? ⟨w.heap.size + 1 + 1, 0, none⟩ = some (.int .i64 2) := bt.cell 0
  have t1 : w1.cell? ⟨w.heap.size + 1 + 1, 1, none⟩ = some (.int .i64 i) := bt.cell 1
  have t2 : w1.cell? ⟨w.heap.size + 1 + 1, 2, none⟩ = some (.string ⟨#[]⟩) := bt.cell 2
  have r0 : w1.cell? ⟨w.heap.size + 1, 0, none⟩ = some (.int .i64 0) := br.cell 0
  have r1 : w1.cell? ⟨w.heap.size + 1, 1, none⟩ = some (.int .i64 0) := br.cell 1
  have r2 : w1.cell? ⟨w.heap.size + 1, 2, none⟩ = some (.string ⟨#[]⟩) := br.cell 2
  have ft : ∀ k, w1.frozen? ⟨w.heap.size + 1 + 1, k, none⟩ = false := bt.frozen
  have fr : ∀ k, w1.frozen? ⟨w.heap.size + 1, k, none⟩ = false := br.frozen
  have hg0 : w.grownBy w1 (some g) := only_trans (only_of_below (by (repeat' (first | (with_reducible exact Below.refl _ _) | (with_reducible assumption) | (with_reducible refine below_drewN ?_ _) | (with_reducible refine Below.alloc ?_ ?_ _) | (with_reducible refine Below.setCell ?_ ?_ _) | (with_reducible refine Below.drew ?_) | go_size))) (some g)) hg1
  have hsz1 : w.heap.size + 1 + 1 < w1.heap.size := bt.lt
  clear hg1 bt br c0 c1
  by_cases h4 : 4 < n
  · go_wp2_with fail
    refine bodyPost_ret (v := .tuple #[.agg #[.int .i64 2, .int .i64 i, .string (s.extract i (i + n))], .int .i64 2]) (by simp [results, Try.results55, go_sem, r0, r1, r2]) rfl ⟨n, 2, rfl, HN.out, by rw [if_pos h4], ?_, ?_⟩
    · have := hb1; (repeat' (first | (with_reducible assumption) | (with_reducible refine Blk.drewN ?_ _) | (with_reducible refine Blk.alloc ?_ _) | (with_reducible refine Blk.drew ?_) | (with_reducible refine Blk.far' ?_ ?_; (first | (simp; done) | (simp; omega) | omega)) | (with_reducible apply Blk.set'; rotate_left) | rfl))
    · (repeat' (first | (with_reducible assumption) | (with_reducible exact World.grownBy.refl _ _) | (with_reducible refine only_drewN ?_ _) | (with_reducible refine only_alloc ?_ _) | (with_reducible refine only_setCell ?_ ?_ _) | (with_reducible refine only_drew ?_) | (exact .inl rfl) | (refine .inr ?_; simp; done) | (refine .inr ?_; simp; omega) | (refine .inr ?_; omega)))
  · by_cases h1 : 1 < n
    · by_cases h48 : s[i] = 48
      · have y48 := byte_eq (k := 48) (by omega) h48
        have H48 := Lib.hid h48
        clear h48
        go_wp2_with fail
        refine bodyPost_ret (v := .tuple #[.agg #[.int .i64 2, .int .i64 i, .string (s.extract i (i + n))], .int .i64 1]) (by simp [results, Try.results55, go_sem, r0, r1, r2]) rfl ⟨n, 1, rfl, HN.out, by rw [if_neg h4, if_pos ⟨h1, H48.out⟩], ?_, ?_⟩
        · have := hb1; (repeat' (first | (with_reducible assumption) | (with_reducible refine Blk.drewN ?_ _) | (with_reducible refine Blk.alloc ?_ _) | (with_reducible refine Blk.drew ?_) | (with_reducible refine Blk.far' ?_ ?_; (first | (simp; done) | (simp; omega) | omega)) | (with_reducible apply Blk.set'; rotate_left) | rfl))
        · (repeat' (first | (with_reducible assumption) | (with_reducible exact World.grownBy.refl _ _) | (with_reducible refine only_drewN ?_ _) | (with_reducible refine only_alloc ?_ _) | (with_reducible refine only_setCell ?_ ?_ _) | (with_reducible refine only_drew ?_) | (exact .inl rfl) | (refine .inr ?_; simp; done) | (refine .inr ?_; simp; omega) | (refine .inr ?_; omega)))
      · have y48 := byte_ne (k := 48) (by omega) h48
        go_wp2_with fail
        refine bodyPost_ret (v := .tuple #[.agg #[.int .i64 2, .int .i64 i, .string (s.extract i (i + n))], .int .i64 0]) (by simp [results, Try.results55, go_sem, r0, r1, r2]) rfl ⟨n, 0, rfl, HN.out, by rw [if_neg h4, if_neg (fun h => h48 h.2)], ?_, ?_⟩
        · have := hb1; (repeat' (first | (with_reducible assumption) | (with_reducible refine Blk.drewN ?_ _) | (with_reducible refine Blk.alloc ?_ _) | (with_reducible refine Blk.drew ?_) | (with_reducible refine Blk.far' ?_ ?_; (first | (simp; done) | (simp; omega) | omega)) | (with_reducible apply Blk.set'; rotate_left) | rfl))
        · (repeat' (first | (with_reducible assumption) | (with_reducible exact World.grownBy.refl _ _) | (with_reducible refine only_drewN ?_ _) | (with_reducible refine only_alloc ?_ _) | (with_reducible refine only_setCell ?_ ?_ _) | (with_reducible refine only_drew ?_) | (exact .inl rfl) | (refine .inr ?_; simp; done) | (refine .inr ?_; simp; omega) | (refine .inr ?_; omega)))
    · have h1' : decide ((1 : Int) < (n : Int)) = false := by simp; omega
      go_wp2_with fail
      refine bodyPost_ret (v := .tuple #[.agg #[.int .i64 2, .int .i64 i, .string (s.extract i (i + n))], .int .i64 0]) (by simp [results, Try.results55, go_sem, r0, r1, r2]) rfl ⟨n, 0, rfl, HN.out, by rw [if_neg h4, if_neg (fun h => h1 h.1)], ?_, ?_⟩
      · have := hb1; (repeat' (first | (with_reducible assumption) | (with_reducible refine Blk.drewN ?_ _) | (with_reducible refine Blk.alloc ?_ _) | (with_reducible refine Blk.drew ?_) | (with_reducible refine Blk.far' ?_ ?_; (first | (simp; done) | (simp; omega) | omega)) | (with_reducible apply Blk.set'; rotate_left) | rfl))
      · (repeat' (first | (with_reducible assumption) | (with_reducible exact World.grownBy.refl _ _) | (with_reducible refine only_drewN ?_ _) | (with_reducible refine only_alloc ?_ _) | (with_reducible refine only_setCell ?_ ?_ _) | (with_reducible refine only_drew ?_) | (exact .inl rfl) | (refine .inr ?_; simp; done) | (refine .inr ?_; simp; omega) | (refine .inr ?_; omega)))
end Go.Proofs.Ytonkbljpcgadlaa
