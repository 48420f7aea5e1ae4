/- The walk of the law TokenPlaces. -/
import Derived.Test.YtonkbljpcgadlaaTok14
namespace Go.Proofs.Ytonkbljpcgadlaa
open Go.RowKit
set_option linter.unusedVariables false

set_option maxRecDepth 100000 in
set_option maxHeartbeats 2000000 in
/-- The law: each token stands where it is told, one behind the other. -/
theorem tokenPlaces_any (s : ByteArray) (w : World) (hz : s.size ≤ 140737488355328) : Calls Try.prog 6 #[.string s] w fun e w' => e = .returned (.bool true) ∧ Below w.heap.size w w' := by
  have h1 := scan_any s w
  have hbad := scanS_bad (l := s.data.toList)
  have hgood := scanS_chain (l := s.data.toList)
  generalize scanS s.data.toList = R at h1 hbad hgood
  obtain ⟨ts, p, er⟩ := R
  simp only at h1 hbad hgood
  have H1 := Lib.hid h1
  clear h1
  by_cases he : er = 0
  · subst he
    obtain ⟨hch, rfl, hl⟩ := hgood rfl
    have HCH := Lib.hid hch
    have hs4 : s.size ≤ 4000 := by simpa using hl
    clear hbad hgood hch hl
    go_enter Try.func6, Try.ntmps6
    go_wp2_with (first
      | (go_at_call 13
         refine H1.out.mono ?_
         rintro e w1 ⟨v, rfl, hv, hb1⟩
         obtain ⟨A, c, rfl, hsl⟩ := rdV_list hv.rds
         have HV := Lib.hid hv.rds
         have hlen := Nat.le_trans hsl.cap hsl.max
         clear hv hsl)
      | (go_at_call 15
         refine (tokenBegun_any _).mono ?_
         rintro e w3 ⟨rfl, hb3⟩
         have HV3 := Lib.hid (HV.out.below hb3)
         have hb3' := bstep hb1 hb3
         clear hb3 hb1 HV))
    go_loopg [6, 7] ts.length (fun gg va vi wr => ∃ k pos : Nat, k ≤ ts.length ∧ ts.length - k ≤ gg ∧ vi = .int .i64 k ∧ va = .int .i64 pos ∧ pos ≤ s.size ∧ Hid (Chain s.data.toList pos (ts.drop k)) ∧ ∃ q, wr = w3.drewN q)
    case atStart => exact ⟨0, 0, Nat.zero_le _, by omega, rfl, rfl, Nat.zero_le _, HCH.out, 0, rfl⟩
    case round =>
      obtain ⟨k, pos, hk, hg, rfl, rfl, hpos, hC, q, rfl⟩ := hrel
      by_cases hlt : k < ts.length
      · have hlt' : (k : Int) < (ts.length : Int) := by omega
        obtain ⟨b, o, rfl, _, c0, c1, c2, _⟩ := rdV_at_tok HV3.out hlt
        have hC' := hC.out
        rw [List.drop_eq_getElem_cons hlt] at hC'
        generalize ts[k] = t at *
        obtain ⟨j, n, g0, g1, g2, g3, g4, _, g5⟩ := hC'
        rw [data_len] at g2
        have hsz : t.text.size = n := by rw [g4]; show (((s.data.toList.drop j).take n).toArray).size = n; rw [List.size_toArray, List.length_take, List.length_drop, data_len]; omega
        have hjn : s.size ≤ 4000 ∧ j + n ≤ s.size ∧ pos ≤ j ∧ 1 ≤ n := ⟨hs4, g2, g0, g1⟩
        rw [g3] at c1
        have htx : (s.extract j (j + n)).toList == t.text.toList := by rw [extract_bs, g4]; simp
        have q0 : ((t.text.size : Int) == 0) = false := by rw [beq_eq_false_iff_ne]; omega
        have q1 : decide (j < pos) = false := by simp; omega
        have q2 : decide (s.size < j) = false := by simp; omega
        have q3 : IntKind.i64.wrap ((s.size : Int) - (j : Int)) = (s.size : Int) - (j : Int) := IntWalk.i64_in _ (by omega)
        have q4 : decide ((s.size : Int) - (j : Int) < (t.text.size : Int)) = false := by simp; omega
        have q5 : IntKind.i64.wrap ((j : Int) + (t.text.size : Int)) = (j : Int) + (t.text.size : Int) := IntWalk.i64_in _ (by omega)
        have q6 : ((j : Int) + (t.text.size : Int)).toNat = j + t.text.size := by omega
        have q7 : (j : Int) + (t.text.size : Int) ≤ (s.size : Int) := by omega
        have htx' : ((s.extract j (j + t.text.size)).toList == t.text.toList) = true := by rw [hsz]; exact htx
        have G5 := Lib.hid g5
        have HSZ := Lib.hid hsz
        clear g3 g4 g5 htx hsz c0 hC
        go_wp2_with fail
        go_quiet (fail)
        go_wp2_with fail
        have hC2 : Hid (Chain s.data.toList (j + t.text.size) (ts.drop (k + 1))) := by rw [HSZ.out]; exact G5.out
        have hp2 : j + t.text.size ≤ s.size := by omega
        go_roundg (ts.length - (k + 1))
        case measure => omega
        case rel => exact ⟨k + 1, j + t.text.size, hlt, Nat.le_refl _, (by go_num), (by go_num), hp2, hC2, _, rfl⟩
      · have hlt' : ¬ (k : Int) < (ts.length : Int) := by omega
        go_wp2_with fail
        go_ret
        exact ⟨rfl, below_drewN hb3' _⟩
  · have hts := hbad he
    subst hts
    have he' : (er != 0) = true := by simpa using he
    clear he hbad hgood
    go_enter Try.func6, Try.ntmps6
    go_wp2_with (first
      | (go_at_call 13
         refine H1.out.mono ?_
         rintro e w1 ⟨v, rfl, hv, hb1⟩
         obtain ⟨A, c, rfl, hsl⟩ := rdV_list hv.rds
         simp only [List.length_nil]
         clear hv hsl)
      | (go_at_call 15
         refine (tokenBegun_any _).mono ?_
         rintro e w3 ⟨rfl, hb3⟩
         have hb3' := bstep hb1 hb3
         clear hb3 hb1))
    go_ret
    exact ⟨by simp, hb3'⟩
end Go.Proofs.Ytonkbljpcgadlaa
