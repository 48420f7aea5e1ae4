/- The walk of the law TokenBack. -/
import Derived.Test.YtonkbljpcgadlaaTok14
import Derived.Test.YtonkbljpcgadlaaTokLaw2
namespace Go.Proofs.Ytonkbljpcgadlaa
open Go.RowKit
set_option linter.unusedVariables false

theorem alike_same {a b : List Tok} (h : Alike a b) : sameT a b false = true := sameT_true ⟨h.1, fun j h1 h2 => ⟨(h.2 j h1 h2).1, (h.2 j h1 h2).2, fun e => by cases e⟩⟩

set_option maxHeartbeats 2000000 in
/-- The law: what is joined is scanned as it was; what is scanned is joined to what is scanned so. -/
theorem tokenBack_any (vl : Value) (l : List Tok) (s : ByteArray) (w : World) (hr : Rds w vl l) (_hz : s.size ≤ 140737488355328) : Calls Try.prog 5 #[vl, .string s] w fun e w' => e = .returned (.bool true) ∧ Below w.heap.size w w' := by
  have j1 := fun W h => join_any vl l W h
  have f1 := join_scan (l := l)
  have f2 := scanS_bad (l := s.data.toList)
  have f3 := scan_joins (s := s.data.toList)
  have c2 := fun W => scan_any s W
  generalize joinS l = R1 at j1 f1
  obtain ⟨t1, e1⟩ := R1
  generalize scanS s.data.toList = R2 at f2 f3 c2
  obtain ⟨m, p, e2⟩ := R2
  simp only at j1 f1 f2 f3 c2
  have j2 := fun v W h => join_any v m W h
  have f4 := join_scan (l := m)
  generalize joinS m = R3 at j2 f3 f4
  obtain ⟨t2, e3⟩ := R3
  simp only at j2 f3 f4
  have J1 := Lib.hid j1
  have J2 := Lib.hid j2
  have C2 := Lib.hid c2
  have HR := Lib.hid hr
  clear j1 j2 c2 hr
  -- the first half's calls
  have first_ : (e1 = 0 ∧ ∃ m1, Hid (sameT l m1 false = true) ∧ Hid (∀ W, Calls Try.prog 13 #[.string t1] W fun e w' => ∃ v, e = .returned (.tuple #[v, .int .i64 0, .int .i64 0]) ∧ Fresh w' W.heap.size v m1 ∧ Below W.heap.size W w')) ∨ (e1 == 0) = false := by
    by_cases h : e1 = 0
    · obtain ⟨m1, h1, h2⟩ := f1 h
      refine .inl ⟨h, m1, alike_same h2, fun W => ?_⟩
      have := scan_any t1 W
      rw [h1] at this; exact this
    · exact .inr (by simpa using h)
  have second_ : ((e2 != 0) = true ∧ m = []) ∨ (e2 = 0 ∧ e3 = 2) ∨ (e2 = 0 ∧ e3 = 0 ∧ ∃ n, Hid (sameT m n false = true) ∧ Hid (∀ W, Calls Try.prog 13 #[.string t2] W fun e w' => ∃ v, e = .returned (.tuple #[v, .int .i64 0, .int .i64 0]) ∧ Fresh w' W.heap.size v n ∧ Below W.heap.size W w')) := by
    by_cases h : e2 = 0
    · rcases f3 h with h3 | h3
      · obtain ⟨n, h1, h2⟩ := f4 h3
        refine .inr (.inr ⟨h, h3, n, alike_same h2, fun W => ?_⟩)
        have := scan_any t2 W
        rw [h1] at this; exact this
      · exact .inr (.inl ⟨h, h3⟩)
    · exact .inl ⟨by simpa using h, f2 h⟩
  clear f1 f2 f3 f4
  rcases first_ with ⟨rfl, m1, S1, K1⟩ | h1
  · rcases second_ with ⟨h2, rfl⟩ | ⟨rfl, rfl⟩ | ⟨rfl, rfl, n, S2, K2⟩
    · go_enter Try.func5, Try.ntmps5
      go_wp2_with fail
      refine (tokenBegun_any _).mono ?_
      rintro e w1 ⟨rfl, b1⟩
      have R1 := Lib.hid (HR.out.below b1)
      go_wp2_with fail
      refine (J1.out _ R1.out).mono ?_
      rintro e w2 ⟨rfl, b2⟩
      have R2 := Lib.hid (R1.out.below b2)
      have B2 := bstep b1 b2
      clear b1 b2 R1
      go_wp2_with fail
      refine (K1.out _).mono ?_
      rintro e w3 ⟨v3, rfl, q3, b3⟩
      have R3 := Lib.hid (R2.out.below b3)
      have Q3 := Lib.hid q3.rds
      have B3 := bstep B2 b3
      clear b3 R2 q3 B2
      go_wp2_with fail
      refine (same_any _ _ l m1 false _ R3.out Q3.out).mono ?_
      rintro e w4 ⟨rfl, q, rfl⟩
      rw [S1.out]
      have B4 := below_drewN B3 q
      clear B3
      go_wp2_with fail
      refine (C2.out _).mono ?_
      rintro e w5 ⟨v5, rfl, q5, b5⟩
      have Q5 := Lib.hid q5.rds
      have B5 := bstep B4 b5
      clear b5 q5 B4
      obtain ⟨A, c, rfl, hsl⟩ := rdV_list Q5.out
      clear hsl
      go_wp2_with fail
      go_ret
      exact ⟨by simp, B5⟩
    · go_enter Try.func5, Try.ntmps5
      go_wp2_with fail
      refine (tokenBegun_any _).mono ?_
      rintro e w1 ⟨rfl, b1⟩
      have R1 := Lib.hid (HR.out.below b1)
      go_wp2_with fail
      refine (J1.out _ R1.out).mono ?_
      rintro e w2 ⟨rfl, b2⟩
      have R2 := Lib.hid (R1.out.below b2)
      have B2 := bstep b1 b2
      clear b1 b2 R1
      go_wp2_with fail
      refine (K1.out _).mono ?_
      rintro e w3 ⟨v3, rfl, q3, b3⟩
      have R3 := Lib.hid (R2.out.below b3)
      have Q3 := Lib.hid q3.rds
      have B3 := bstep B2 b3
      clear b3 R2 q3 B2
      go_wp2_with fail
      refine (same_any _ _ l m1 false _ R3.out Q3.out).mono ?_
      rintro e w4 ⟨rfl, q, rfl⟩
      rw [S1.out]
      have B4 := below_drewN B3 q
      clear B3
      go_wp2_with fail
      refine (C2.out _).mono ?_
      rintro e w5 ⟨v5, rfl, q5, b5⟩
      have Q5 := Lib.hid q5.rds
      have B5 := bstep B4 b5
      clear b5 q5 B4
      go_wp2_with fail
      refine (J2.out _ _ Q5.out).mono ?_
      rintro e w6 ⟨rfl, b6⟩
      have R6 := Lib.hid (Q5.out.below b6)
      have B6 := bstep B5 b6
      clear b6 B5
      go_wp2_with fail
      go_ret
      exact ⟨by simp, B6⟩
    · go_enter Try.func5, Try.ntmps5
      go_wp2_with fail
      refine (tokenBegun_any _).mono ?_
      rintro e w1 ⟨rfl, b1⟩
      have R1 := Lib.hid (HR.out.below b1)
      go_wp2_with fail
      refine (J1.out _ R1.out).mono ?_
      rintro e w2 ⟨rfl, b2⟩
      have R2 := Lib.hid (R1.out.below b2)
      have B2 := bstep b1 b2
      clear b1 b2 R1
      go_wp2_with fail
      refine (K1.out _).mono ?_
      rintro e w3 ⟨v3, rfl, q3, b3⟩
      have R3 := Lib.hid (R2.out.below b3)
      have Q3 := Lib.hid q3.rds
      have B3 := bstep B2 b3
      clear b3 R2 q3 B2
      go_wp2_with fail
      refine (same_any _ _ l m1 false _ R3.out Q3.out).mono ?_
      rintro e w4 ⟨rfl, q, rfl⟩
      rw [S1.out]
      have B4 := below_drewN B3 q
      clear B3
      go_wp2_with fail
      refine (C2.out _).mono ?_
      rintro e w5 ⟨v5, rfl, q5, b5⟩
      have Q5 := Lib.hid q5.rds
      have B5 := bstep B4 b5
      clear b5 q5 B4
      go_wp2_with fail
      refine (J2.out _ _ Q5.out).mono ?_
      rintro e w6 ⟨rfl, b6⟩
      have R6 := Lib.hid (Q5.out.below b6)
      have B6 := bstep B5 b6
      clear b6 B5
      go_wp2_with fail
      refine (K2.out _).mono ?_
      rintro e w7 ⟨v7, rfl, q7, b7⟩
      have R7 := Lib.hid (R6.out.below b7)
      have Q7 := Lib.hid q7.rds
      have B7 := bstep B6 b7
      clear b7 q7 B6
      go_wp2_with fail
      refine (same_any _ _ m n false _ R7.out Q7.out).mono ?_
      rintro e w8 ⟨rfl, q', rfl⟩
      rw [S2.out]
      go_wp2_with fail
      go_ret
      exact ⟨by simp, below_drewN B7 _⟩
  · rcases second_ with ⟨h2, rfl⟩ | ⟨rfl, rfl⟩ | ⟨rfl, rfl, n, S2, K2⟩
    · go_enter Try.func5, Try.ntmps5
      go_wp2_with fail
      refine (tokenBegun_any _).mono ?_
      rintro e w1 ⟨rfl, b1⟩
      have R1 := Lib.hid (HR.out.below b1)
      go_wp2_with fail
      refine (J1.out _ R1.out).mono ?_
      rintro e w2 ⟨rfl, b2⟩
      have R2 := Lib.hid (R1.out.below b2)
      have B2 := bstep b1 b2
      clear b1 b2 R1
      go_wp2_with fail
      have B4 := B2
      clear B2
      refine (C2.out _).mono ?_
      rintro e w5 ⟨v5, rfl, q5, b5⟩
      have Q5 := Lib.hid q5.rds
      have B5 := bstep B4 b5
      clear b5 q5 B4
      obtain ⟨A, c, rfl, hsl⟩ := rdV_list Q5.out
      clear hsl
      go_wp2_with fail
      go_ret
      exact ⟨by simp, B5⟩
    · go_enter Try.func5, Try.ntmps5
      go_wp2_with fail
      refine (tokenBegun_any _).mono ?_
      rintro e w1 ⟨rfl, b1⟩
      have R1 := Lib.hid (HR.out.below b1)
      go_wp2_with fail
      refine (J1.out _ R1.out).mono ?_
      rintro e w2 ⟨rfl, b2⟩
      have R2 := Lib.hid (R1.out.below b2)
      have B2 := bstep b1 b2
      clear b1 b2 R1
      go_wp2_with fail
      have B4 := B2
      clear B2
      refine (C2.out _).mono ?_
      rintro e w5 ⟨v5, rfl, q5, b5⟩
      have Q5 := Lib.hid q5.rds
      have B5 := bstep B4 b5
      clear b5 q5 B4
      go_wp2_with fail
      refine (J2.out _ _ Q5.out).mono ?_
      rintro e w6 ⟨rfl, b6⟩
      have R6 := Lib.hid (Q5.out.below b6)
      have B6 := bstep B5 b6
      clear b6 B5
      go_wp2_with fail
      go_ret
      exact ⟨by simp, B6⟩
    · go_enter Try.func5, Try.ntmps5
      go_wp2_with fail
      refine (tokenBegun_any _).mono ?_
      rintro e w1 ⟨rfl, b1⟩
      have R1 := Lib.hid (HR.out.below b1)
      go_wp2_with fail
      refine (J1.out _ R1.out).mono ?_
      rintro e w2 ⟨rfl, b2⟩
      have R2 := Lib.hid (R1.out.below b2)
      have B2 := bstep b1 b2
      clear b1 b2 R1
      go_wp2_with fail
      have B4 := B2
      clear B2
      refine (C2.out _).mono ?_
      rintro e w5 ⟨v5, rfl, q5, b5⟩
      have Q5 := Lib.hid q5.rds
      have B5 := bstep B4 b5
      clear b5 q5 B4
      go_wp2_with fail
      refine (J2.out _ _ Q5.out).mono ?_
      rintro e w6 ⟨rfl, b6⟩
      have R6 := Lib.hid (Q5.out.below b6)
      have B6 := bstep B5 b6
      clear b6 B5
      go_wp2_with fail
      refine (K2.out _).mono ?_
      rintro e w7 ⟨v7, rfl, q7, b7⟩
      have R7 := Lib.hid (R6.out.below b7)
      have Q7 := Lib.hid q7.rds
      have B7 := bstep B6 b7
      clear b7 q7 B6
      go_wp2_with fail
      refine (same_any _ _ m n false _ R7.out Q7.out).mono ?_
      rintro e w8 ⟨rfl, q', rfl⟩
      rw [S2.out]
      go_wp2_with fail
      go_ret
      exact ⟨by simp, below_drewN B7 _⟩
end Go.Proofs.Ytonkbljpcgadlaa
