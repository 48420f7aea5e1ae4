/- tokenBegun; the walk of the law TokenScans. -/
import Derived.Test.YtonkbljpcgadlaaTok13
import Derived.Laws.StructEq
namespace Go.Proofs.Ytonkbljpcgadlaa
open Go.RowKit
set_option linter.unusedVariables false

def begunS : List UInt8 := [97, 98, 32, 60, 61, 32, 55, 59, 37, 120]
def begunT : List Tok := [⟨1, 0, bs [97, 98]⟩, ⟨3, 3, bs [60, 61]⟩, ⟨2, 6, bs [55]⟩, ⟨3, 7, bs [59]⟩]
theorem begun_scan : scanS begunS = (begunT, 0, 0) := by decide +kernel
theorem begun_join : joinS begunT = (bs [97, 98, 32, 60, 61, 32, 55, 32, 59], 0) := by decide +kernel

set_option maxHeartbeats 1000000 in
theorem tokenBegun_any (w : World) : Calls Try.prog 15 #[] w fun e w' => e = .returned (.bool true) ∧ Below w.heap.size w w' := by
  have h1 := scan_any (bs begunS) w
  rw [show scanS (bs begunS).data.toList = (begunT, 0, 0) from begun_scan] at h1
  have h2 := fun v W h => join_any v begunT W h
  rw [begun_join] at h2
  simp only at h1 h2
  have z1 : ((bs [60, 61]).toList == [60, 61]) = true := by rw [ByteArray.toList_eq]; rfl
  have z2 : ((bs [97, 98, 32, 60, 61, 32, 55, 32, 59]).toList == [97, 98, 32, 60, 61, 32, 55, 32, 59]) = true := by rw [ByteArray.toList_eq]; rfl
  have z3 : (begunT.length : Int) = 4 := rfl
  have H1 := Lib.hid h1
  have H2 := Lib.hid h2
  clear h1 h2
  go_enter Try.func15, Try.ntmps15
  go_wp2_with (first
    | (go_at_call 13
       refine H1.out.mono ?_
       rintro e w1 ⟨v, rfl, hv, hb⟩
       have hr := hv.rds
       obtain ⟨A, c, rfl, _⟩ := rdV_list hr
       obtain ⟨b, o, rfl, hbs, c0, c1, c2, _⟩ := rdV_at_tok hr (i := 1) (by decide)
       have HR := Lib.hid hr
       clear hr hv)
    | (go_at_call 17
       refine (H2.out _ _ HR.out).mono ?_
       rintro e w2 ⟨rfl, hb2⟩
       have d0 := (hb2.cell (p := ⟨b, o + 1 * 3, none⟩) hbs).trans c0
       have d1 := (hb2.cell (p := ⟨b, o + 1 * 3 + 1, none⟩) hbs).trans c1
       have d2 := (hb2.cell (p := ⟨b, o + 1 * 3 + 2, none⟩) hbs).trans c2
       simp only [begunT, List.getElem_cons_succ, List.getElem_cons_zero] at d0 d1 d2
       have hb3 := bstep hb hb2
       clear hb hb2 c0 c1 c2 HR))
  go_ret
  exact ⟨by simp, hb3⟩

set_option maxHeartbeats 1000000 in
/-- The law: Scan answers just what the document says. -/
theorem tokenScans_any (s : ByteArray) (w : World) : Calls Try.prog 3 #[.string s] w fun e w' => e = .returned (.bool true) ∧ Below w.heap.size w w' := by
  have h1 := fun W => scan_any s W
  have h2 := fun W => ref_scan_any s W
  generalize scanS s.data.toList = R at h1 h2
  obtain ⟨ts, p, er⟩ := R
  simp only at h1 h2
  have H1 := Lib.hid h1
  have H2 := Lib.hid h2
  have hsame := sameT_refl ts true
  have z1 : (er == er) = true := by simp
  have z2 : (p == p) = true := by simp
  clear h1 h2
  go_enter Try.func3, Try.ntmps3
  go_wp2_with (first
    | (go_at_call 13
       refine (H1.out _).mono ?_
       rintro e w1 ⟨v, rfl, hv, hb1⟩
       have HV := Lib.hid hv.rds
       clear hv)
    | (go_at_call 14
       refine (H2.out _).mono ?_
       rintro e w2 ⟨v2, rfl, hv2, hb2⟩
       have HV1 := Lib.hid (HV.out.below hb2)
       have HV2 := Lib.hid hv2.rds
       have hb2' := bstep hb1 hb2
       clear hv2 hb2 hb1 HV)
    | (go_at_call 15
       refine (tokenBegun_any _).mono ?_
       rintro e w3 ⟨rfl, hb3⟩
       have HV3 := Lib.hid (HV1.out.below hb3)
       have HV4 := Lib.hid (HV2.out.below hb3)
       have hb3' := bstep hb2' hb3
       clear HV1 HV2 hb3 hb2')
    | (go_at_call 16
       refine (same_any _ _ ts ts true _ HV3.out HV4.out).mono ?_
       rintro e w4 ⟨rfl, q, rfl⟩))
  go_ret
  exact ⟨by simp, below_drewN hb3' _⟩
end Go.Proofs.Ytonkbljpcgadlaa
