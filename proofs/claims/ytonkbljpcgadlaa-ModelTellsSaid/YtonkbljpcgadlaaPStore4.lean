/- The laws of stores. -/
import Derived.Test.YtonkbljpcgadlaaPStore3
import Derived.Test.YtonkbljpcgadlaaWCordonlaw
namespace Go.Proofs.Ytonkbljpcgadlaa
open Go.RowKit
set_option linter.unusedVariables false
set_option linter.unusedSimpArgs false

def twoM : MdlD := ⟨[⟨⟨#[120]⟩, 0, 2⟩, ⟨⟨#[121]⟩, 0, 2⟩], [⟨1, [0, 1], [1, -1], -1, [], []⟩], 1, 1⟩
theorem cordonlaw_two_ok : Sat Try.prog f_cordonlaw_two [] (toD .mdl twoM) :=
  cordonlaw_two_sat fun ok => by rw [cordonlaw_two_eq]; exact rfl
theorem cordonlaw_checkStore_ok (m : MdlD) (s : List (List Int)) : Sat Try.prog f_cordonlaw_checkStore [dM m, dS s] (dI (readyE m [s])) :=
  cordonlaw_checkStore_sat m s fun ok => by
    rw [cordonlaw_checkStore_eq]
    refine call1 (cordonref_CheckModel_ok m) (sel_intro (fun e => ?_) fun e => ?_)
    · refine call1 (cordonref_CheckStore_ok m s) (dI_of ?_)
      rw [readyE_2 (not_not_intro (of_decide_eq_true e)), firstE_one]
    · exact dI_of (readyE_1 (of_decide_eq_false e))
def isS (a : List (List Int)) (e1 e2 : Int) (b : List (List Int)) : Bool := decide (e1 = e2) && decide (a = orS e2 b)
theorem cordonlaw_storeIs_ok (a : List (List Int)) (e1 e2 : Int) (b : List (List Int)) : Sat Try.prog f_cordonlaw_storeIs [dS a, dI e1, dI e2, dS b] (dB (isS a e1 e2 b)) :=
  cordonlaw_storeIs_sat a e1 e2 b fun ok => by
    rw [cordonlaw_storeIs_eq]
    refine sel_intro (fun e => ?_) fun e => sel_intro (fun f => call1 (cordonref_SameStore_ok _ _) ?_) fun f => ?_
    · refine sel_intro (fun f => call1 (cordonref_SameStore_ok _ _) ?_) fun f => ?_
      · rw [isS, f, orS, if_neg (ne0_true e)]; rfl
      · rw [isS, f]; rfl
    · rw [isS, f, orS, if_pos (ne0_false e)]; rfl
    · rw [isS, f]; rfl
theorem isS_same {a : List (List Int)} {e1 e2 : Int} {b : List (List Int)} (h1 : e1 = e2) (h2 : a = orS e2 b) : isS a e1 e2 b = true := by rw [isS, decide_eq_true h1, decide_eq_true h2]; rfl
theorem two_begin : Sat Try.prog f_store_Begin [dM twoM] (.tup [dS [[0, 1, 2], [0, 1, 2]], dI 0]) := by
  have h := store_Begin_ok twoM
  rwa [show checkM twoM = 0 by kernel_rfl, show orS 0 (fullS twoM) = [[0, 1, 2], [0, 1, 2]] by kernel_rfl] at h
theorem two_meet : Sat Try.prog f_store_Meet [dM twoM, dS [[0, 1, 2], [0, 1, 2]], dS [[1], [0, 2]]] (.tup [dS [[1], [0, 2]], dI 0]) := by
  have h := store_Meet_ok twoM [[0, 1, 2], [0, 1, 2]] [[1], [0, 2]]
  rwa [show readyE twoM [[[0, 1, 2], [0, 1, 2]], [[1], [0, 2]]] = 0 by kernel_rfl, show orS 0 (meetS [[0, 1, 2], [0, 1, 2]] [[1], [0, 2]]) = [[1], [0, 2]] by kernel_rfl] at h
theorem two_within : Sat Try.prog f_store_Within [dM twoM, dS [[1], [0, 2]], dS [[0, 1, 2], [0, 1, 2]]] (.tup [dB true, dI 0]) := by
  have h := store_Within_ok twoM [[1], [0, 2]] [[0, 1, 2], [0, 1, 2]]
  rwa [show readyE twoM [[[1], [0, 2]], [[0, 1, 2], [0, 1, 2]]] = 0 by kernel_rfl, show orB 0 (withinS [[1], [0, 2]] [[0, 1, 2], [0, 1, 2]]) = true by kernel_rfl] at h
theorem two_failed : Sat Try.prog f_store_Failed [dM twoM, dS [[0, 1, 2], [0, 1, 2]]] (.tup [dB false, dI 0]) := by
  have h := store_Failed_ok twoM [[0, 1, 2], [0, 1, 2]]
  rwa [show readyE twoM [[[0, 1, 2], [0, 1, 2]]] = 0 by kernel_rfl, show orB 0 (failS [[0, 1, 2], [0, 1, 2]]) = false by kernel_rfl] at h
theorem two_check : Sat Try.prog f_store_Check [dM twoM, dS [[1], [0, 2]]] (dI 0) := by
  have h := store_Check_ok twoM [[1], [0, 2]]
  rwa [show readyE twoM [[[1], [0, 2]]] = 0 by kernel_rfl] at h
theorem cordonlaw_storeBegun_ok : Sat Try.prog f_cordonlaw_storeBegun [] (dB true) :=
  cordonlaw_storeBegun_sat fun ok => by
    rw [cordonlaw_storeBegun_eq]
    refine call1 cordonlaw_two_ok (call2 (t := .list (.list .int)) (u := .int) two_begin (call1 cordonlaw_two_ok (call2 (t := .list (.list .int)) (u := .int) two_meet (call1 cordonlaw_two_ok (call2 (t := .bool) (u := .int) two_within (call1 cordonlaw_two_ok (call2 (t := .bool) (u := .int) two_failed ?_)))))))
    refine call1 (cordonref_SameStore_ok _ _) (call1 (cordonref_SameStore_ok _ _) (call1 cordonlaw_two_ok (call1 two_check rfl)))
theorem tell_tail {m : MdlD} {s : List (List Int)} {a1 a3 x1 x3 : List (List Int)} {e2 e4 c9 c11 e6 e8 c10 : Int} {b5 b5' b7 b7' : Bool} (h1 : isS a1 e2 c9 x1 = true) (h2 : isS a3 e4 c11 x3 = true) (h3 : e6 = c11) (h4 : b5 = b5') (h5 : e8 = c10) (h6 : b7 = b7') (h7 : readyE m [s] = c10) :
    Call1 Try.prog f_cordonlaw_storeBegun [] .bool fun c16 => sel c16
      (Call1 Try.prog f_cordonlaw_storeIs [dS a1, dI e2, dI c9, dS x1] .bool fun c17 => sel c17
        (Call1 Try.prog f_cordonlaw_storeIs [dS a3, dI e4, dI c11, dS x3] .bool fun c18 => sel c18
          (sel (decide (e6 = c11)) (sel (b5 == b5') (sel (decide (e8 = c10)) (sel (b7 == b7')
            (Call1 Try.prog f_store_Check [dM m, dS s] .int fun s19 => D.bool (decide (s19 = c10)) = dB true)
            (D.bool false = dB true)) (D.bool false = dB true)) (D.bool false = dB true)) (D.bool false = dB true))
          (D.bool false = dB true)) (D.bool false = dB true)) (D.bool false = dB true) := by
  refine call1 cordonlaw_storeBegun_ok (call1 (cordonlaw_storeIs_ok _ _ _ _) ?_)
  rw [h1]
  refine call1 (cordonlaw_storeIs_ok _ _ _ _) ?_
  rw [h2, decide_eq_true h3, decide_eq_true h5, h4, h6, beq_self_eq_true, beq_self_eq_true]
  refine call1 (store_Check_ok m s) ?_
  rw [decide_eq_true h7]
theorem ready_s {m : MdlD} {s t : List (List Int)} (h : readyE m [s] = 0) : readyE m [s, t] = storeE m t := by
  by_cases h1 : checkM m = 0
  · rw [readyE_2 (not_not_intro h1), firstE_one] at h
    rw [readyE_2 (not_not_intro h1), firstE_two, if_pos h]
  · rw [readyE_1 h1] at h; exact absurd h h1
theorem ready_n {m : MdlD} {s t : List (List Int)} (h : readyE m [s] ≠ 0) : readyE m [s, t] = readyE m [s] := by
  by_cases h1 : checkM m = 0
  · rw [readyE_2 (not_not_intro h1), firstE_one] at h
    rw [readyE_2 (not_not_intro h1), firstE_two, if_neg h, readyE_2 (not_not_intro h1), firstE_one]
  · rw [readyE_1 h1, readyE_1 h1]
theorem ready_check {m : MdlD} {ss : List (List (List Int))} (h : readyE m ss = 0) : checkM m = 0 := by
  by_cases h1 : checkM m = 0
  · exact h1
  · rw [readyE_1 h1] at h; exact absurd h h1
theorem dt {p : Prop} [Decidable p] {X Y : Prop} (h : p) (hx : X) : sel (decide p) X Y := by rw [decide_eq_true h]; exact hx
theorem df {p : Prop} [Decidable p] {X Y : Prop} (h : ¬p) (hy : Y) : sel (decide p) X Y := by rw [decide_eq_false h]; exact hy
theorem dnt {p : Prop} [Decidable p] {X Y : Prop} (h : ¬p) (hx : X) : sel (!decide p) X Y := by rw [decide_eq_false h]; exact hx
theorem dnf {p : Prop} [Decidable p] {X Y : Prop} (h : p) (hy : Y) : sel (!decide p) X Y := by rw [decide_eq_true h]; exact hy
theorem orS0 {s : List (List Int)} {e : Int} (h : e = 0) : orS e s = s := if_pos h
theorem orS1 {s : List (List Int)} {e : Int} (h : e ≠ 0) : orS e s = [] := if_neg h
theorem orB0 {b : Bool} {e : Int} (h : e = 0) : orB e b = b := if_pos h
theorem orB1 {b : Bool} {e : Int} (h : e ≠ 0) : orB e b = false := if_neg h
theorem orS2 {s : List (List Int)} {e : Int} (h : e ≠ 0) : orS e s = orS e [] := by rw [orS1 h, orS1 h]
theorem cordonlaw_StoreTells_ok (m : MdlD) (s t : List (List Int)) : Sat Try.prog f_cordonlaw_StoreTells [dM m, dS s, dS t] (dB true) :=
  cordonlaw_StoreTells_sat m s t fun ok => by
    rw [cordonlaw_StoreTells_eq]
    refine call2 (t := .list (.list .int)) (u := .int) (store_Begin_ok m) (call2 (t := .list (.list .int)) (u := .int) (store_Meet_ok m s t) (call2 (t := .bool) (u := .int) (store_Within_ok m s t) (call2 (t := .bool) (u := .int) (store_Failed_ok m s) (call1 (cordonref_CheckModel_ok m) (call1 (cordonlaw_checkStore_ok m s) ?_)))))
    by_cases h10 : readyE m [s] = 0
    · have h9 := ready_check h10
      have hr := right_of h9
      have hl := (ready_one h10).2
      refine dt h10 (call1 (cordonref_CheckStore_ok m t) (dt h9 (call1 (cordonref_BeginOf_ok hr.lohi hr.vars) (dt h10 (call1 (cordonref_HasFailed_ok s) ?_)))))
      by_cases h11 : storeE m t = 0
      · have hl2 := storeE_len h11
        exact dt h11 (call1 (cordonref_MeetOf_ok (by omega)) (call1 (cordonref_IsWithin_ok (by omega)) (tell_tail (isS_same rfl rfl) (isS_same (ready_s h10) (by rw [ready_s h10])) (ready_s h10) (by rw [ready_s h10, orB0 h11]) rfl (orB0 h10) rfl)))
      · exact df h11 (tell_tail (isS_same rfl rfl) (isS_same (ready_s h10) (by rw [ready_s h10, orS2 h11])) (ready_s h10) (by rw [ready_s h10, orB1 h11]) rfl (orB0 h10) rfl)
    · refine df h10 ?_
      by_cases h9 : checkM m = 0
      · have hr := right_of h9
        exact dt h9 (call1 (cordonref_BeginOf_ok hr.lohi hr.vars) (df h10 (df h10 (tell_tail (isS_same rfl rfl) (isS_same (ready_n h10) (by rw [ready_n h10, orS2 h10])) (ready_n h10) (by rw [ready_n h10, orB1 h10]) rfl (orB1 h10) rfl))))
      · exact df h9 (df h10 (df h10 (tell_tail (isS_same rfl (orS2 h9)) (isS_same (ready_n h10) (by rw [ready_n h10, orS2 h10])) (ready_n h10) (by rw [ready_n h10, orB1 h10]) rfl (orB1 h10) rfl)))
end Go.Proofs.Ytonkbljpcgadlaa
