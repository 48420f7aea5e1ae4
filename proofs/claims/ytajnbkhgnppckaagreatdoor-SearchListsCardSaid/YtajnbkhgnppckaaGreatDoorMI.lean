/- Texts of this proof, one behind the other: nothing is handed in but what is proved here; no condition. -/
import Derived.Test.YtajnbkhgnppckaaGreatDoorMH
import Derived.Test.YtajnbkhgnppckaaGreatDoorWProof
/- What the program's calls of proofs answer, and the document's. -/
namespace Go.Proofs.YtajnbkhgnppckaaGreatDoor
open Go.RowKit
set_option linter.unusedVariables false
set_option linter.unusedSimpArgs false
noncomputable def byCon (m : MdlD) (con : Int) (c : List LitD) : Bool := failS (filterS (conAt m con) (denyC (fullS m) c))
noncomputable def byUnit (m : MdlD) (l : List (List LitD)) (c : List LitD) : Bool := failS (runS m false l (denyC (fullS m) c))
noncomputable def stepB (m : MdlD) (all : List (List LitD)) (st : StepD) : Bool := if st.kind = 1 then byCon m st.con st.clause else if st.kind = 2 then decide (st.con = 0) && byUnit m all st.clause else false
noncomputable def rightS (m : MdlD) : List (List LitD) → List StepD → Bool
 | _, [] => true
 | all, st :: l => stepB m all st && rightS m (all ++ [st.clause]) l
def lastEmpty (l : List StepD) : Bool := decide (0 < l.length) && decide (((l.getD (l.length - 1) ⟨0, 0, []⟩).clause).length = 0)
noncomputable def proofB (m : MdlD) (given : List (List LitD)) (l : List StepD) : Bool := rightS m given l && lastEmpty l
theorem zd {m : MdlD} : (fullS m).length = m.vars.length := List.length_map ..
theorem zcb {m : MdlD} {v : Nat} (hv : v < m.vars.length) : (fullS m).getD v [] = fullV m.vars[v] := by
 rw [getD_at _ (by rw [zd]; exact hv)]; simp [fullS]
theorem zKg {v : VarD} {n : Int} : n ∈ fullV v ↔ v.lo ≤ n ∧ n ≤ v.hi := by rw [fullV, upL_mem]; omega
theorem zPc {m : MdlD} : storeE m (fullS m) = 0 := by
 refine zmg.2 ⟨zd, fun v n hn => ?_, fun l hl => ?_⟩
 ·by_cases hv : v < m.vars.length
  ·rw [zcb hv, zKg] at hn
   rw [getD_at _ hv]; exact hn
  ·rw [zj (by rw [zd]; omega)] at hn; cases hn
 ·obtain ⟨v, hv, rfl⟩ := List.mem_map.1 hl
  exact zci
theorem deny_le {s : List (List Int)} {c : List LitD} : leS (denyC s c) s := zmb
theorem zrw {m : MdlD} {c : List LitD} : storeE m (denyC (fullS m) c) = 0 := zHd zPc deny_le
theorem zsw {m : MdlD} (h : Right m) {c : List LitD} : GoodS (denyC (fullS m) c) m.vars.length := zpb h zrw
theorem full_ok {m : MdlD} (hr : Right m) : Sat Tryz.prog zyb [dM m] (dS (fullS m)) := zPt hr.lohi hr.vars
theorem ztw {m : MdlD} {con : Int} {c : List LitD} (h : atE m con = 0) : Sat Tryz.prog zdf [dM m, dI con, .sl .lit c] (dB (byCon m con c)) :=
 zqw m con c fun ok => by
  obtain ⟨hr, hc⟩ := zJ h
  have hg := zsw hr (c := c)
  have hl := hg.len
  rw [zpw]
  refine call1 (full_ok hr) (call1 (zyu _ _) ⟨inb_iff.2 hc, call1 (zGd (c := conAt m con) (by rw [hl]; exact zlb h) (by rw [hl]; exact hg)) (call1 (zq _) rfl)⟩)
theorem zuw {a b : Int} (h : or0 a b = 0) : a = 0 ∧ b = 0 := by
 by_cases e : a = 0
 ·rw [or0_eq e] at h; exact ⟨e, h⟩
 ·rw [or0_ne e] at h; exact absurd h e
structure StepsOk (m : MdlD) (given : List (List LitD)) (l : List StepD) : Prop where
 chk : checkM m = 0
 glen : given.length ≤ 600
 slen : l.length ≤ 6000
 gcl : ∀ c ∈ given, clauseE m.vars.length c = 0
 scl : ∀ s ∈ l, clauseE m.vars.length s.clause = 0
 con : ∀ s ∈ l, s.kind = 1 → 0 ≤ s.con ∧ s.con < (m.cons.length : Int)
end Go.Proofs.YtajnbkhgnppckaaGreatDoor
/- The laws of proofs. -/
namespace Go.Proofs.YtajnbkhgnppckaaGreatDoor
open Go.RowKit
set_option linter.unusedVariables false
set_option linter.unusedSimpArgs false
end Go.Proofs.YtajnbkhgnppckaaGreatDoor
