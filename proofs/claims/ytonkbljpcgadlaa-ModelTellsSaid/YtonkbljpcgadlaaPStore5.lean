/- The law of what meets. -/
import Derived.Test.YtonkbljpcgadlaaPStore4
namespace Go.Proofs.Ytonkbljpcgadlaa
open Go.RowKit
set_option linter.unusedVariables false
set_option linter.unusedSimpArgs false

theorem hasI_iff {l : List Int} {n : Int} : hasI l n = true ↔ n ∈ l := by
  rw [hasI, List.any_eq_true]
  exact ⟨fun ⟨k, hk, e⟩ => by rw [of_decide_eq_true e]; exact hk, fun h => ⟨n, h, decide_eq_true rfl⟩⟩
theorem keepS_getD {f : Nat → Int → Bool} {s : List (List Int)} {v : Nat} : (keepS f s).getD v [] = (s.getD v []).filter (f v) := by
  rw [keepS, List.getD_eq_getElem?_getD, List.getD_eq_getElem?_getD, List.getElem?_mapIdx]
  cases s[v]? <;> rfl
theorem keepS_length {f : Nat → Int → Bool} {s : List (List Int)} : (keepS f s).length = s.length := List.length_mapIdx
theorem withinS_iff {s t : List (List Int)} (h : s.length = t.length) : withinS s t = true ↔ ∀ v, ∀ n ∈ s.getD v [], n ∈ t.getD v [] := by
  rw [withinS, Bool.not_eq_true', List.any_eq_false]
  constructor
  · intro hx v n hn
    by_cases hv : v < s.length
    · have hv2 : v < t.length := by omega
      have hz : v < (s.zip t).length := by rw [List.length_zip]; omega
      have := hx _ (List.getElem_mem hz)
      rw [List.getElem_zip] at this
      rw [getD_at _ hv] at hn
      rw [getD_at _ hv2]
      have h3 := fun h => this (List.any_eq_true.2 ⟨n, hn, h⟩)
      simp only [Bool.not_eq_true', Bool.not_eq_false] at h3
      exact hasI_iff.1 (by simpa using h3)
    · rw [List.getD_eq_getElem?_getD, List.getElem?_eq_none (by omega)] at hn
      simp at hn
  · intro hx y hy hp
    obtain ⟨i, hi, rfl⟩ := List.getElem_of_mem hy
    rw [List.length_zip] at hi
    rw [List.getElem_zip, List.any_eq_true] at hp
    obtain ⟨n, hn, e⟩ := hp
    have := hx i n (by rw [getD_at _ (by omega)]; exact hn)
    rw [getD_at _ (show i < t.length by omega)] at this
    have h4 := hasI_iff.2 this
    rw [h4] at e
    exact absurd e (by decide)
theorem disL_cons {a b : Int} {l : List Int} : disL (a :: b :: l) = (decide (b ≤ a) || disL (b :: l)) := rfl
theorem dis_pw : ∀ {l : List Int}, disL l = false ↔ l.Pairwise (· < ·)
  | [] => by simp [disL]
  | [a] => by simp [disL]
  | a :: b :: l => by
    rw [disL_cons, Bool.or_eq_false_iff, dis_pw, List.pairwise_cons (a := a) (l := b :: l)]
    constructor
    · rintro ⟨h1, h2⟩
      have h1 := of_decide_eq_false h1
      refine ⟨fun x hx => ?_, h2⟩
      rcases List.mem_cons.1 hx with rfl | hx
      · omega
      · have := (List.pairwise_cons.1 h2).1 x hx; omega
    · rintro ⟨h1, h2⟩
      exact ⟨decide_eq_false (by have := h1 b (List.mem_cons_self ..); omega), h2⟩
/-- What a right store is. -/
theorem storeE_zero {m : MdlD} {s : List (List Int)} : storeE m s = 0 ↔ s.length = m.vars.length ∧ (∀ v, ∀ n ∈ s.getD v [], (m.vars.getD v ⟨⟨#[]⟩, 0, 0⟩).lo ≤ n ∧ n ≤ (m.vars.getD v ⟨⟨#[]⟩, 0, 0⟩).hi) ∧ ∀ l ∈ s, l.Pairwise (· < ·) := by
  constructor
  · intro h
    have hl := storeE_len h
    unfold storeE at h
    rw [if_neg (not_not_intro hl)] at h
    split at h
    · exact absurd h (by decide)
    rename_i h1
    split at h
    · exact absurd h (by decide)
    rename_i h2
    refine ⟨hl, fun v n hn => ?_, fun l hl => dis_pw.1 ?_⟩
    · by_cases hv : v < s.length
      · have hz : v < (s.zip m.vars).length := by rw [List.length_zip]; omega
        rw [getD_at _ hv] at hn
        rw [getD_at _ (show v < m.vars.length by omega)]
        rw [Bool.not_eq_true, outB, List.any_eq_false] at h1
        have := h1 _ (List.getElem_mem hz)
        rw [List.getElem_zip, Bool.not_eq_true, List.any_eq_false] at this
        have := this n hn
        simp [outV] at this
        omega
      · rw [List.getD_eq_getElem?_getD, List.getElem?_eq_none (by omega)] at hn
        simp at hn
    · rw [Bool.not_eq_true, List.any_eq_false] at h2
      simpa using h2 l hl
  · rintro ⟨hl, h1, h2⟩
    refine storeE_4 (not_not_intro hl) ?_ ?_
    · rw [outB, List.any_eq_true]
      rintro ⟨x, hx, hp⟩
      obtain ⟨i, hi, rfl⟩ := List.getElem_of_mem hx
      rw [List.length_zip] at hi
      rw [List.getElem_zip, List.any_eq_true] at hp
      obtain ⟨n, hn, e⟩ := hp
      have := h1 i n (by rw [getD_at _ (by omega)]; exact hn)
      rw [getD_at _ (show i < m.vars.length by omega)] at this
      simp [outV] at e
      omega
    · rw [List.any_eq_true]
      rintro ⟨l, hl, e⟩
      rw [dis_pw.2 (h2 l hl)] at e
      exact absurd e (by decide)
theorem storeE_keep {m : MdlD} {s : List (List Int)} {f : Nat → Int → Bool} (h : storeE m s = 0) : storeE m (keepS f s) = 0 := by
  obtain ⟨h1, h2, h3⟩ := storeE_zero.1 h
  refine storeE_zero.2 ⟨by rw [keepS_length, h1], fun v n hn => ?_, fun l hl => ?_⟩
  · rw [keepS_getD, List.mem_filter] at hn
    exact h2 v n hn.1
  · obtain ⟨i, hi, rfl⟩ := List.getElem_of_mem hl
    have hi' : i < s.length := by rw [keepS_length] at hi; exact hi
    simp only [keepS, List.getElem_mapIdx]
    exact (h3 _ (List.getElem_mem hi')).filter _
theorem ready_zero {m : MdlD} {s t : List (List Int)} (h : readyE m [s, t] = 0) : checkM m = 0 ∧ storeE m s = 0 ∧ storeE m t = 0 := by
  have h1 := ready_check h
  rw [readyE_2 (not_not_intro h1), firstE_two] at h
  split at h
  · rename_i h2; exact ⟨h1, h2, h⟩
  · rename_i h2; exact absurd h h2
theorem ready_mk {m : MdlD} {s t : List (List Int)} (h1 : checkM m = 0) (h3 : storeE m t = 0) : readyE m [s, t] = storeE m s := by
  rw [readyE_2 (not_not_intro h1), firstE_two]
  split
  · rename_i h2; rw [h2, h3]
  · rfl
theorem within_meet {s t : List (List Int)} (hl : s.length = t.length) {u : List (List Int)} (hu : u.length = s.length) : withinS u (meetS s t) = (withinS u s && withinS u t) := by
  have hm : (meetS s t).length = s.length := keepS_length
  rw [Bool.eq_iff_iff, Bool.and_eq_true, withinS_iff (by omega), withinS_iff hu, withinS_iff (by omega)]
  have hk : ∀ v, (meetS s t).getD v [] = (s.getD v []).filter fun n => hasI (t.getD v []) n := fun v => keepS_getD (f := fun v n => hasI (t.getD v []) n)
  simp only [hk, List.mem_filter, hasI_iff]
  exact ⟨fun h => ⟨fun v n hn => (h v n hn).1, fun v n hn => (h v n hn).2⟩, fun h v n hn => ⟨h.1 v n hn, h.2 v n hn⟩⟩
theorem within_self {s : List (List Int)} : withinS s s = true := (withinS_iff rfl).2 fun _ _ h => h
theorem bt {b : Bool} {X Y : Prop} (h : b = true) (hx : X) : sel b X Y := by rw [h]; exact hx
theorem bnf {b : Bool} {X Y : Prop} (h : b = true) (hy : Y) : sel (!b) X Y := by rw [h]; exact hy
theorem bf {b : Bool} {X Y : Prop} (h : b = false) (hy : Y) : sel b X Y := by rw [h]; exact hy
theorem bnt {b : Bool} {X Y : Prop} (h : b = false) (hx : X) : sel (!b) X Y := by rw [h]; exact hx
theorem cordonlaw_StoreMeets_ok (m : MdlD) (s t u : List (List Int)) : Sat Try.prog f_cordonlaw_StoreMeets [dM m, dS s, dS t, dS u] (dB true) :=
  cordonlaw_StoreMeets_sat m s t u fun ok => by
    rw [cordonlaw_StoreMeets_eq]
    refine call2 (t := .list (.list .int)) (u := .int) (store_Meet_ok m s t) (call1 cordonlaw_storeBegun_ok ?_)
    by_cases h : readyE m [s, t] = 0
    · obtain ⟨h1, h2, h3⟩ := ready_zero h
      have hs := storeE_len h2
      have ht := storeE_len h3
      refine dnf h ?_
      rw [orS0 h]
      have hx : storeE m (meetS s t) = 0 := storeE_keep h2
      have hm : (meetS s t).length = s.length := keepS_length
      have w1 : withinS (meetS s t) s = true ∧ withinS (meetS s t) t = true := by
        have := within_meet (show s.length = t.length by omega) hm
        rw [within_self] at this
        exact Bool.and_eq_true_iff.1 this.symm
      refine call2 (t := .bool) (u := .int) (store_Within_ok m _ s) (call2 (t := .bool) (u := .int) (store_Within_ok m _ t) ?_)
      have r1 : readyE m [meetS s t, s] = 0 := by rw [ready_mk h1 h2, hx]
      have r2 : readyE m [meetS s t, t] = 0 := by rw [ready_mk h1 h3, hx]
      refine dnf r1 (dnf r2 (bnf (by rw [orB0 r1, w1.1]) (bnf (by rw [orB0 r2, w1.2]) ?_)))
      refine call2 (t := .bool) (u := .int) (store_Within_ok m u s) (call2 (t := .bool) (u := .int) (store_Within_ok m u t) (call2 (t := .bool) (u := .int) (store_Within_ok m u _) ?_))
      rw [ready_mk h1 h2, ready_mk h1 h3, ready_mk h1 hx]
      by_cases hu : storeE m u = 0
      · have hul := storeE_len hu
        refine dnf hu (dt hu (dt hu ?_))
        rw [orB0 hu, orB0 hu, orB0 hu, within_meet (by omega) (by omega)]
        refine sel_intro (fun e => ?_) fun e => ?_
        · rw [e, Bool.true_and, beq_self_eq_true]
        · rw [e, Bool.false_and]; rfl
      · exact dnt hu (dt rfl (by rw [decide_eq_true rfl]))
    · refine dnt h ?_
      rw [orS1 h]; rfl
end Go.Proofs.Ytonkbljpcgadlaa
