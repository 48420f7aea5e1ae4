/- The walks of one, Join, JoinOf. -/
import Derived.Test.YtonkbljpcgadlaaTok10
import Derived.Test.YtonkbljpcgadlaaTokLaw
namespace Go.Proofs.Ytonkbljpcgadlaa
open Go.RowKit
set_option linter.unusedVariables false

theorem scan_any (s : ByteArray) (w : World) : Calls Try.prog 13 #[.string s] w fun e w' =>
    ∃ v, e = .returned (.tuple #[v, .int .i64 (scanS s.data.toList).2.1, .int .i64 (scanS s.data.toList).2.2]) ∧ Fresh w' w.heap.size v (scanS s.data.toList).1 ∧ Below w.heap.size w w' := by
  unfold scanS
  by_cases hs : s.data.toList.length > 4000
  · rw [if_pos hs]
    refine (scan_big s w (by simpa using hs)).mono ?_
    rintro e w' ⟨rfl, rfl⟩
    exact ⟨_, rfl, fresh_nil _ _, Below.refl _ _⟩
  · rw [if_neg hs]
    exact scan_small s w (by simpa using hs)
theorem ref_scan_any (s : ByteArray) (w : World) : Calls Try.prog 14 #[.string s] w fun e w' =>
    ∃ v, e = .returned (.tuple #[v, .int .i64 (scanS s.data.toList).2.1, .int .i64 (scanS s.data.toList).2.2]) ∧ Fresh w' w.heap.size v (scanS s.data.toList).1 ∧ Below w.heap.size w w' := by
  unfold scanS
  by_cases hs : s.data.toList.length > 4000
  · rw [if_pos hs]
    refine (ref_scan_big s w (by simpa using hs)).mono ?_
    rintro e w' ⟨rfl, rfl⟩
    exact ⟨_, rfl, fresh_nil _ _, Below.refl _ _⟩
  · rw [if_neg hs]
    exact ref_scan_small s w (by simpa using hs)

set_option maxHeartbeats 1000000 in
theorem one_any (kind : Int) (s : ByteArray) (w : World) : Calls Try.prog 57 #[.int .i64 kind, .string s] w fun e w' => e = .returned (.bool (isTok kind s.data.toList)) ∧ Below w.heap.size w w' := by
  have hiff := one_iff kind s
  have hcall := scan_any s w
  generalize scanS s.data.toList = R at hiff hcall
  obtain ⟨ts, p, er⟩ := R
  simp only at hiff hcall
  by_cases he : er = 0
  · subst he
    by_cases h1 : ts.length = 1
    · obtain ⟨t, rfl⟩ : ∃ t, ts = [t] := List.length_eq_one_iff.1 h1
      have HI := Lib.hid hiff
      have HC := Lib.hid hcall
      clear hiff hcall h1
      by_cases hk : t.kind = kind
      · have hk' : (t.kind == kind) = true := by simp [hk]
        by_cases hx : t.text = s
        · have hr : isTok kind s.data.toList = true := HI.out.1 ⟨rfl, t, rfl, hk, hx⟩
          have hx' := text_eq hx
          rw [hr]
          clear hk hx hr
          go_enter Try.func57, Try.ntmps57
          go_wp2_with (go_at_call 13; refine HC.out.mono ?_; rintro e w1 ⟨v, rfl, hv, hb⟩; obtain ⟨A, c, rfl, _⟩ := rdV_list hv.rds; obtain ⟨b, o, rfl, _, c0, c1, c2, _⟩ := rdV_at_tok hv.rds (i := 0) (by simp); simp only [Nat.zero_mul, Nat.add_zero, List.getElem_cons_zero] at c0 c1 c2)
          go_ret
          exact ⟨rfl, by (repeat' (first | (with_reducible exact Below.refl _ _) | (with_reducible assumption) | (with_reducible refine below_drewN ?_ _) | (with_reducible refine Below.alloc ?_ ?_ _) | (with_reducible refine Below.setCell ?_ ?_ _) | (with_reducible refine Below.drew ?_) | go_size))⟩
        · have hr : isTok kind s.data.toList = false := by rw [← Bool.not_eq_true]; intro h; obtain ⟨_, t', h1, _, h3⟩ := HI.out.2 h; injection h1 with h1; subst h1; exact hx h3
          have hx' := text_ne hx
          rw [hr]
          clear hk hx hr
          go_enter Try.func57, Try.ntmps57
          go_wp2_with (go_at_call 13; refine HC.out.mono ?_; rintro e w1 ⟨v, rfl, hv, hb⟩; obtain ⟨A, c, rfl, _⟩ := rdV_list hv.rds; obtain ⟨b, o, rfl, _, c0, c1, c2, _⟩ := rdV_at_tok hv.rds (i := 0) (by simp); simp only [Nat.zero_mul, Nat.add_zero, List.getElem_cons_zero] at c0 c1 c2)
          go_ret
          exact ⟨rfl, by (repeat' (first | (with_reducible exact Below.refl _ _) | (with_reducible assumption) | (with_reducible refine below_drewN ?_ _) | (with_reducible refine Below.alloc ?_ ?_ _) | (with_reducible refine Below.setCell ?_ ?_ _) | (with_reducible refine Below.drew ?_) | go_size))⟩
      · have hr : isTok kind s.data.toList = false := by rw [← Bool.not_eq_true]; intro h; obtain ⟨_, t', h1, h2, _⟩ := HI.out.2 h; injection h1 with h1; subst h1; exact hk h2
        have hk' : (t.kind == kind) = false := by simpa using hk
        rw [hr]
        clear hk hr
        go_enter Try.func57, Try.ntmps57
        go_wp2_with (go_at_call 13; refine HC.out.mono ?_; rintro e w1 ⟨v, rfl, hv, hb⟩; obtain ⟨A, c, rfl, _⟩ := rdV_list hv.rds; obtain ⟨b, o, rfl, _, c0, c1, c2, _⟩ := rdV_at_tok hv.rds (i := 0) (by simp); simp only [Nat.zero_mul, Nat.add_zero, List.getElem_cons_zero] at c0 c1 c2)
        go_ret
        exact ⟨rfl, by (repeat' (first | (with_reducible exact Below.refl _ _) | (with_reducible assumption) | (with_reducible refine below_drewN ?_ _) | (with_reducible refine Below.alloc ?_ ?_ _) | (with_reducible refine Below.setCell ?_ ?_ _) | (with_reducible refine Below.drew ?_) | go_size))⟩
    · have hr : isTok kind s.data.toList = false := by rw [← Bool.not_eq_true]; intro h; obtain ⟨_, t', h2, _, _⟩ := hiff.2 h; exact h1 (by rw [h2]; rfl)
      have hl' : ((ts.length : Int) == 1) = false := by rw [beq_eq_false_iff_ne]; omega
      have HC := Lib.hid hcall
      clear hiff hcall h1
      rw [hr]
      clear hr
      go_enter Try.func57, Try.ntmps57
      go_wp2_with (go_at_call 13; refine HC.out.mono ?_; rintro e w1 ⟨v, rfl, hv, hb⟩; obtain ⟨A, c, rfl, _⟩ := rdV_list hv.rds)
      go_ret
      exact ⟨rfl, by (repeat' (first | (with_reducible exact Below.refl _ _) | (with_reducible assumption) | (with_reducible refine below_drewN ?_ _) | (with_reducible refine Below.alloc ?_ ?_ _) | (with_reducible refine Below.setCell ?_ ?_ _) | (with_reducible refine Below.drew ?_) | go_size))⟩
  · have hr : isTok kind s.data.toList = false := by rw [← Bool.not_eq_true]; intro h; exact he (hiff.2 h).1
    have he' : (er == 0) = false := by simpa using he
    have HC := Lib.hid hcall
    clear hiff hcall he
    rw [hr]
    clear hr
    go_enter Try.func57, Try.ntmps57
    go_wp2_with (go_at_call 13; refine HC.out.mono ?_; rintro e w1 ⟨v, rfl, hv, hb⟩; obtain ⟨A, c, rfl, _⟩ := rdV_list hv.rds)
    go_ret
    exact ⟨rfl, by (repeat' (first | (with_reducible exact Below.refl _ _) | (with_reducible assumption) | (with_reducible refine below_drewN ?_ _) | (with_reducible refine Below.alloc ?_ ?_ _) | (with_reducible refine Below.setCell ?_ ?_ _) | (with_reducible refine Below.drew ?_) | go_size))⟩
end Go.Proofs.Ytonkbljpcgadlaa
