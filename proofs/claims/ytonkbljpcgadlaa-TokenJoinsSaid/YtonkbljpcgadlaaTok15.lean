/- The walk of the law TokenJoins. -/
import Derived.Test.YtonkbljpcgadlaaTok14
namespace Go.Proofs.Ytonkbljpcgadlaa
open Go.RowKit
set_option linter.unusedVariables false

set_option maxHeartbeats 1000000 in
/-- The law: Join answers just what the document says. -/
theorem tokenJoins_any (v : Value) (l : List Tok) (w : World) (hr : Rds w v l) : Calls Try.prog 4 #[v] w fun e w' => e = .returned (.bool true) ∧ Below w.heap.size w w' := by
  have h1 := join_any v l w hr
  have h2 := fun W h => ref_join_any v l W h
  generalize joinS l = R at h1 h2
  obtain ⟨s, er⟩ := R
  simp only at h1 h2
  have H1 := Lib.hid h1
  have H2 := Lib.hid h2
  have HR := Lib.hid hr
  have z1 : (er == er) = true := by simp
  have z2 : (s.toList == s.toList) = true := by simp
  clear h1 h2 hr
  go_enter Try.func4, Try.ntmps4
  go_wp2_with (first
    | (go_at_call 17
       refine H1.out.mono ?_
       rintro e w1 ⟨rfl, hb1⟩
       have HR1 := Lib.hid (HR.out.below hb1))
    | (go_at_call 18
       refine (H2.out _ HR1.out).mono ?_
       rintro e w2 ⟨rfl, q, rfl⟩)
    | (go_at_call 15
       refine (tokenBegun_any _).mono ?_
       rintro e w3 ⟨rfl, hb3⟩
       have hb3' := bstep (below_drewN hb1 q) hb3
       clear hb3 hb1))
  go_ret
  exact ⟨by simp, hb3'⟩
end Go.Proofs.Ytonkbljpcgadlaa
