/- What the program's and the document's calls of literals answer, of stores. -/
import Derived.Test.YtgnjdgafkjohaaaGreatPLit1
namespace Go.Proofs.YtgnjdgafkjohaaaGreat
open Go.RowKit
set_option linter.unusedVariables false
set_option linter.unusedSimpArgs false

theorem lit_Set_1_ok (v : Nat) (n : Int) (l : LitD) : Sat Tryz.prog f_lit_Set_1 [dI v, dI n, .iptr [.int .i64 l.var, .int .i64 l.op, .int .i64 l.n] 0] (dB (!decide ((v : Int) = l.var) || holdsL l n)) :=
  lit_Set_1_sat v n l fun ok => by
    rw [lit_Set_1_eq]
    refine sel_intro (fun e => ?_) fun e => call1 (model_Lit_ok l n) ?_
    · rw [e]; rfl
    · rw [e]; rfl
theorem lit_Set_ok (s : List (List Int)) (l : LitD) : Sat Tryz.prog f_lit_Set [dS s, dL l] (dS (putL s l)) :=
  lit_Set_sat s l fun ok => by
    rw [lit_Set_eq]
    exact call1 (store_Keep_ok (f := fun v n => !decide ((v : Int) = l.var) || holdsL l n) lit_Set_1_ent fun v hv n hn => lit_Set_1_ok v n l) rfl
def orI (e n : Int) : Int := if e = 0 then n else 0
theorem orI0 {n e : Int} (h : e = 0) : orI e n = n := if_pos h
theorem orI1 {n e : Int} (h : e ≠ 0) : orI e n = 0 := if_neg h
theorem lit_Told_ok (m : MdlD) (s : List (List Int)) (l : LitD) : Sat Tryz.prog f_lit_Told [dM m, dS s, dL l] (.tup [dI (orI (rdyL m s l) (toldL s l)), dI (rdyL m s l)]) :=
  lit_Told_sat m s l fun ok => by
    rw [lit_Told_eq]
    refine call1 (lit_ready_ok m s l) (sel_intro (fun e => ?_) fun e => ?_)
    · rw [orI1 (ne0_true e)]
    · have h := rdyL_zero (ne0_false e)
      have hv := (litE_zero.1 h.2.2).1
      have hl := storeE_len h.2.1
      rw [orI0 (ne0_false e), ne0_false e]
      exact call1 (lit_Says_ok (by omega)) rfl
theorem lit_Put_ok (m : MdlD) (s : List (List Int)) (l : LitD) : Sat Tryz.prog f_lit_Put [dM m, dS s, dL l] (.tup [dS (orS (rdyL m s l) (putL s l)), dI (rdyL m s l)]) :=
  lit_Put_sat m s l fun ok => by
    rw [lit_Put_eq]
    refine call1 (lit_ready_ok m s l) (sel_intro (fun e => ?_) fun e => ?_)
    · rw [orS1 (ne0_true e)]
    · rw [orS0 (ne0_false e), ne0_false e]
      exact call1 (lit_Set_ok s l) rfl
theorem two_holds : Sat Tryz.prog f_lit_Holds [dM twoM, dL ⟨1, 1, 1⟩, dI 1] (.tup [dB true, dI 0]) := by
  have h := lit_Holds_ok twoM ⟨1, 1, 1⟩ 1
  rwa [show chkL twoM ⟨1, 1, 1⟩ = 0 by kernel_rfl, show orB 0 (holdsL ⟨1, 1, 1⟩ 1) = true by kernel_rfl] at h
theorem two_not : Sat Tryz.prog f_lit_Not [dM twoM, dL ⟨1, 1, 1⟩] (.tup [toD .lit ⟨1, 2, 2⟩, dI 0]) := by
  have h := lit_Not_ok twoM ⟨1, 1, 1⟩
  rwa [show notE twoM ⟨1, 1, 1⟩ = 0 by kernel_rfl, show orL 0 (oppL ⟨1, 1, 1⟩) = ⟨1, 2, 2⟩ by kernel_rfl] at h
theorem two_told : Sat Tryz.prog f_lit_Told [dM twoM, dS [[0, 1, 2], [0, 1, 2]], dL ⟨1, 1, 1⟩] (.tup [dI 0, dI 0]) := by
  have h := lit_Told_ok twoM [[0, 1, 2], [0, 1, 2]] ⟨1, 1, 1⟩
  rwa [show rdyL twoM [[0, 1, 2], [0, 1, 2]] ⟨1, 1, 1⟩ = 0 by kernel_rfl, show orI 0 (toldL [[0, 1, 2], [0, 1, 2]] ⟨1, 1, 1⟩) = 0 by kernel_rfl] at h
theorem two_put : Sat Tryz.prog f_lit_Put [dM twoM, dS [[0, 1, 2], [0, 1, 2]], dL ⟨1, 1, 1⟩] (.tup [dS [[0, 1, 2], [0, 1]], dI 0]) := by
  have h := lit_Put_ok twoM [[0, 1, 2], [0, 1, 2]] ⟨1, 1, 1⟩
  rwa [show rdyL twoM [[0, 1, 2], [0, 1, 2]] ⟨1, 1, 1⟩ = 0 by kernel_rfl, show orS 0 (putL [[0, 1, 2], [0, 1, 2]] ⟨1, 1, 1⟩) = [[0, 1, 2], [0, 1]] by kernel_rfl] at h
theorem two_lcheck : Sat Tryz.prog f_lit_Check [dM twoM, dL ⟨1, 1, 1⟩] (dI 0) := by
  have h := lit_Check_ok twoM ⟨1, 1, 1⟩
  rwa [show chkL twoM ⟨1, 1, 1⟩ = 0 by kernel_rfl] at h
theorem cordonlaw_litBegun_ok : Sat Tryz.prog f_cordonlaw_litBegun [] (dB true) :=
  cordonlaw_litBegun_sat fun ok => by
    rw [cordonlaw_litBegun_eq]
    refine call1 cordonlaw_two_ok (call2 (t := .bool) (u := .int) two_holds (call1 cordonlaw_two_ok ⟨?_, ?_⟩))
    · exact call2 (t := .lit) (u := .int) two_not (call1 cordonlaw_two_ok (call2 (t := .int) (u := .int) two_told (call1 cordonlaw_two_ok (call2 (t := .list (.list .int)) (u := .int) two_put (call1 cordonlaw_two_ok (call1 two_lcheck (call1 (cordonref_SameStore_ok _ _) rfl)))))))
    · exact call2 (t := .lit) (u := .int) two_not (call1 cordonlaw_two_ok (call2 (t := .int) (u := .int) two_told (call1 cordonlaw_two_ok (call2 (t := .list (.list .int)) (u := .int) two_put (call1 cordonlaw_two_ok (call1 two_lcheck (call1 (cordonref_SameStore_ok _ _) rfl)))))))
end Go.Proofs.YtgnjdgafkjohaaaGreat
