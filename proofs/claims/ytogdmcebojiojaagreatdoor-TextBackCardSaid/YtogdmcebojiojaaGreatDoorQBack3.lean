/- What is printed is scanned: plain laws. -/
import Derived.Test.YtogdmcebojiojaaGreatDoorQBack2
namespace Go.Proofs.YtogdmcebojiojaaGreatDoor
open Go.RowKit
set_option linter.unusedVariables false
set_option linter.unusedSimpArgs false

theorem bl_nil : ∀ c ∈ ([] : List UInt8), blank c = true := fun c h => by cases h
theorem bl_32 : ∀ c ∈ ([32] : List UInt8), blank c = true := by decide
theorem bl_10 : ∀ c ∈ ([10] : List UInt8), blank c = true := by decide
theorem tw_len {f : UInt8 → Bool} : ∀ (l : List UInt8), (l.takeWhile f).length = l.length → ∀ x ∈ l, f x = true
  | [], _, x, hx => by cases hx
  | c :: l, h, x, hx => by
    rw [List.takeWhile_cons] at h
    cases hc : f c with
    | true =>
      rw [hc, if_pos rfl, List.length_cons, List.length_cons] at h
      rcases List.mem_cons.1 hx with rfl | hx
      · exact hc
      · exact tw_len l (by omega) x hx
    | false => rw [hc, if_neg (by decide)] at h; simp at h
theorem pok_name {s : ByteArray} (h : isNameS s = true) {sep : List UInt8} (hs : ∀ c ∈ sep, blank c = true) : POk (nmP s sep) := by
  have hz := name_size h
  unfold isNameS at h
  rw [Bool.and_eq_true] at h
  have h := h.1
  unfold nmP
  have hz' : s.data.toList.length ≤ 12 := hz
  cases hd : s.data.toList with
  | nil => rw [hd] at h; cases h
  | cons c r =>
    rw [hd] at h hz'
    simp only [isTok, Bool.and_eq_true, decide_eq_true_eq] at h
    obtain ⟨⟨⟨_, h1⟩, h2⟩, h3⟩ := h
    have h1 : (tokenAt (c :: r)).1 = 1 := by omega
    cases hL : isL c with
    | true =>
      rw [tokenAt, if_pos hL] at h2
      exact pok_word rfl hL (tw_len r (by simp at h2; omega)) hz' hs
    | false =>
      rw [tokenAt, if_neg (by rw [hL]; decide)] at h1
      split at h1
      · cases h1
      · split at h1
        · cases h1
        · split at h1 <;> cases h1
theorem pok_conw (k : Int) (h : 1 ≤ k ∧ k ≤ 10) {sep : List UInt8} (hs : ∀ c ∈ sep, blank c = true) : POk (nmP (wdS k) sep) := by
  have h : k = 1 ∨ k = 2 ∨ k = 3 ∨ k = 4 ∨ k = 5 ∨ k = 6 ∨ k = 7 ∨ k = 8 ∨ k = 9 ∨ k = 10 := by omega
  rcases h with rfl | rfl | rfl | rfl | rfl | rfl | rfl | rfl | rfl | rfl <;> exact pok_word (c := _) (v := _) rfl (by decide) (by decide) (by decide) hs
theorem pok_op (o : Int) (h : 1 ≤ o ∧ o ≤ 4) {sep : List UInt8} (hs : ∀ c ∈ sep, blank c = true) : POk ⟨3, (opS o).data.toList, sep⟩ := by
  have h : o = 1 ∨ o = 2 ∨ o = 3 ∨ o = 4 := by omega
  rcases h with rfl | rfl | rfl | rfl <;> exact pok_two (by decide) hs
theorem digs_ok {n : Nat} (h : n < 1001) : (∃ c v, digs n = c :: v ∧ isD c = true ∧ (∀ x ∈ v, isD x = true) ∧ (1 < (digs n).length → c ≠ 48)) ∧ (digs n).length ≤ 4 ∧ Lib.atoi (digs n) = some (n : Int) ∧ (n = 0 ∨ digs n ≠ [48]) := by
  have := digsOk_all n h
  simp only [digsOk, Bool.and_eq_true, Bool.or_eq_true, decide_eq_true_eq, bne_iff_ne, ne_eq, List.all_eq_true] at this
  obtain ⟨⟨⟨⟨⟨h1, h2⟩, h3⟩, h4⟩, h5⟩, h6⟩ := this
  refine ⟨?_, h3, h5, h6⟩
  cases hd : digs n with
  | nil => exact absurd hd h2
  | cons c v =>
    rw [hd] at h1 h4
    exact ⟨c, v, rfl, h1 c List.mem_cons_self, fun x hx => h1 x (List.mem_cons_of_mem _ hx), fun h => h4.resolve_left (by omega)⟩
theorem pok_digs {n : Nat} (h : n < 1001) {sep : List UInt8} (hs : ∀ c ∈ sep, blank c = true) : POk ⟨2, digs n, sep⟩ := by
  obtain ⟨⟨c, v, e, h1, h2, h3⟩, h4, _⟩ := digs_ok h
  exact pok_num e h1 h2 h4 h3 hs
/-! ### Whole pieces -/
theorem good_int {n : Int} (h : -1000 ≤ n ∧ n ≤ 1000) {sep r : List UInt8} (hs : ∀ c ∈ sep, blank c = true) (hr : nw (sep ++ r) = true) : GoodP (intP n sep) r := by
  unfold intP
  split
  · exact ⟨pok_sign (by decide) bl_nil, .inl rfl, pok_digs (by omega) hs, .inr hr, trivial⟩
  · exact ⟨pok_digs (by omega) hs, .inr hr, trivial⟩
theorem good_tail {sep r : List UInt8} (hs : ∀ c ∈ sep, blank c = true) : ∀ {xs : List (List Pc)}, (∀ x ∈ xs, ∀ r, nw r = true → GoodP x r) → GoodP (tailP xs sep) r
  | [], _ => ⟨pok_sign (by decide) hs, .inl rfl, trivial⟩
  | x :: xs, h => by
    have e : tailP (x :: xs) sep = ⟨3, [44], [32]⟩ :: (x ++ tailP xs sep) := by unfold tailP; rw [List.flatMap_cons, List.append_assoc]; rfl
    rw [e]
    refine ⟨pok_sign (by decide) bl_32, .inl rfl, goodP_app (h x List.mem_cons_self _ ?_) (good_tail hs fun y hy => h y (List.mem_cons_of_mem _ hy))⟩
    rw [byt_tail]
    cases xs with
    | nil => rfl
    | cons y ys => rfl
theorem good_br {sep r : List UInt8} (hs : ∀ c ∈ sep, blank c = true) {xs : List (List Pc)} (h : ∀ x ∈ xs, ∀ r, nw r = true → GoodP x r) : GoodP (brP' xs sep) r := by
  cases xs with
  | nil => exact ⟨pok_sign (by decide) bl_nil, .inl rfl, pok_sign (by decide) hs, .inl rfl, trivial⟩
  | cons x xs =>
    refine ⟨pok_sign (by decide) bl_nil, .inl rfl, goodP_app (h x List.mem_cons_self _ ?_) (good_tail hs fun y hy => h y (List.mem_cons_of_mem _ hy))⟩
    rw [byt_tail]
    cases xs with
    | nil => rfl
    | cons y ys => rfl
theorem nms_name {vs : List VarD} (hn : ∀ v ∈ vs, isNameS v.name = true) {i : Int} (hi : 0 ≤ i ∧ i < vs.length) : isNameS (nmS vs i) = true := by
  unfold nmS
  rw [atN (t := .var) (by omega : i.toNat < vs.length)]
  exact hn _ (List.getElem_mem _)
section
variable {vs : List VarD} (hn : ∀ v ∈ vs, isNameS v.name = true)
include hn
theorem good_nm {i : Int} (hi : 0 ≤ i ∧ i < vs.length) {sep r : List UInt8} (hs : ∀ c ∈ sep, blank c = true) (hr : nw (sep ++ r) = true) : GoodP [nmP (nmS vs i) sep] r := ⟨pok_name (nms_name hn hi) hs, .inr hr, trivial⟩
theorem good_names {l : List Int} (h : ∀ i ∈ l, 0 ≤ i ∧ i < vs.length) {sep r : List UInt8} (hs : ∀ c ∈ sep, blank c = true) : GoodP (namesP vs l sep) r :=
  good_br hs fun x hx r hr => by
    obtain ⟨i, hi, rfl⟩ := List.mem_map.1 hx
    exact good_nm hn (h i hi) bl_nil hr
omit hn in
theorem good_nums {l : List Int} (h : ∀ n ∈ l, -1000 ≤ n ∧ n ≤ 1000) {sep r : List UInt8} (hs : ∀ c ∈ sep, blank c = true) : GoodP (numsP l sep) r :=
  good_br hs fun x hx r hr => by
    obtain ⟨i, hi, rfl⟩ := List.mem_map.1 hx
    exact good_int (h i hi) bl_nil hr
theorem good_lit {x : LitD} (h : litE vs.length x = 0) {sep r : List UInt8} (hs : ∀ c ∈ sep, blank c = true) (hr : nw (sep ++ r) = true) : GoodP (litPc vs x sep) r := by
  obtain ⟨h1, h2, h3⟩ := litE_n h
  exact ⟨pok_name (nms_name hn h1) bl_32, .inr rfl, pok_op _ h2 bl_32, .inl rfl, good_int h3 hs hr⟩
theorem good_con {c : ConD} (h : RightC c vs.length) {r : List UInt8} (hr : nw r = true) : GoodP (conPc vs c) r := by
  unfold conPc
  refine ⟨pok_conw _ h.kind bl_32, .inr rfl, ?_⟩
  have hf := form_len h
  have hv : ∀ i, i < c.vars.length → 0 ≤ at' .int c.vars i ∧ at' .int c.vars i < vs.length := fun i hi => h.vars _ (getI_mem hi)
  rcases kind_cases h with hk | hk | hk | hk | hk | hk | hk | hk | hk | hk
  · rw [if_pos (by omega)]; exact goodP_app (good_nums h.consts bl_32) (goodP_app (good_names hn h.vars bl_32) (good_int h.n bl_nil hr))
  · rw [if_pos (by omega)]; exact goodP_app (good_nums h.consts bl_32) (goodP_app (good_names hn h.vars bl_32) (good_int h.n bl_nil hr))
  · rw [if_pos (by omega)]; exact goodP_app (good_nums h.consts bl_32) (goodP_app (good_names hn h.vars bl_32) (good_int h.n bl_nil hr))
  · rw [if_neg (by omega), if_pos hk]; exact good_names hn h.vars bl_nil
  · have hl := hf.1 hk
    rw [if_neg (by omega), if_neg (by omega), if_pos hk]
    exact goodP_app (good_nums h.consts bl_32) (goodP_app (a := [_]) (b := [_]) (good_nm hn (hv 0 (by omega)) bl_32 rfl) (good_nm hn (hv 1 (by omega)) bl_nil hr))
  · rw [if_neg (by omega), if_neg (by omega), if_neg (by omega), if_pos hk]
    exact goodP_app (good_names hn h.vars bl_32) (good_br bl_nil fun x hx r hr => by
      obtain ⟨i, hi, rfl⟩ := List.mem_map.1 hx
      exact good_nums (h.rows i hi) bl_nil)
  · have hl := hf.2.1 hk
    rw [if_neg (by omega), if_neg (by omega), if_neg (by omega), if_neg (by omega), if_pos hk]
    exact goodP_app (a := [_]) (b := [_, _]) (good_nm hn (hv 0 (by omega)) bl_32 rfl) (goodP_app (a := [_]) (b := [_]) (good_nm hn (hv 1 (by omega)) bl_32 rfl) (good_nm hn (hv 2 (by omega)) bl_nil hr))
  · have hl := hf.2.2.1 hk
    rw [if_neg (by omega), if_neg (by omega), if_neg (by omega), if_neg (by omega), if_neg (by omega), if_pos hk]
    exact goodP_app (a := [_]) (good_nm hn (hv 0 (by omega)) bl_32 rfl) (good_names hn (fun i hi => h.vars i (List.mem_of_mem_drop hi)) bl_nil)
  · rw [if_neg (by omega), if_neg (by omega), if_neg (by omega), if_neg (by omega), if_neg (by omega), if_neg (by omega), if_pos hk]
    exact good_br bl_nil fun x hx r hr => by
      obtain ⟨i, hi, rfl⟩ := List.mem_map.1 hx
      exact good_lit hn (h.lits i hi) bl_nil hr
  · have hl := hf.2.2.2.1 hk
    rw [if_neg (by omega), if_neg (by omega), if_neg (by omega), if_neg (by omega), if_neg (by omega), if_neg (by omega), if_neg (by omega)]
    exact goodP_app (a := [_]) (good_nm hn (hv 0 (by omega)) bl_32 rfl) (good_lit hn (h.lits _ (getL_mem (i := 0) (by omega))) bl_nil hr)
omit hn in
theorem good_flat {α : Type} {f : α → List Pc} : ∀ {xs : List α} {r : List UInt8}, (∀ x ∈ xs, ∀ r, GoodP (f x) r) → GoodP (xs.flatMap f) r
  | [], _, _ => trivial
  | x :: xs, r, h => by rw [List.flatMap_cons]; exact goodP_app (h x List.mem_cons_self _) (good_flat fun y hy => h y (List.mem_cons_of_mem _ hy))
end
theorem good_mdl {m : MdlD} (hm : checkM m = 0) : GoodP (mdlPc m) [] := by
  have h := prOk hm
  have hn := varsE_names (checkM_vars hm)
  unfold mdlPc
  refine goodP_app (good_flat fun v hv r => ?_) (goodP_app (good_flat fun c hc r => ?_) ?_)
  · have hr := h.right.var v hv
    refine ⟨pok_word (c := _) (v := _) rfl (by decide) (by decide) (by decide) bl_32, .inr rfl, pok_name (hn v hv) bl_nil, .inr rfl, pok_sign (by decide) bl_32, .inl rfl, goodP_app (good_int (by omega) bl_nil rfl) ⟨pok_two (by decide) bl_nil, .inl rfl, goodP_app (good_int (by omega) bl_nil rfl) ⟨pok_sign (by decide) bl_10, .inl rfl, trivial⟩⟩⟩
  · exact ⟨pok_word (c := _) (v := _) rfl (by decide) (by decide) (by decide) bl_32, .inr rfl, goodP_app (good_con hn (h.cons c hc) rfl) ⟨pok_sign (by decide) bl_10, .inl rfl, trivial⟩⟩
  · unfold goalPc
    refine ⟨pok_word (c := _) (v := _) rfl (by decide) (by decide) (by decide) bl_32, .inr rfl, ?_⟩
    rcases goal_cases h with hg | ⟨hg | hg, hv⟩
    · rw [if_pos hg]
      exact ⟨pok_word (c := _) (v := _) rfl (by decide) (by decide) (by decide) bl_nil, .inr rfl, pok_sign (by decide) bl_10, .inl rfl, trivial⟩
    · rw [if_neg (by omega), if_pos hg]
      exact ⟨pok_word (c := _) (v := _) rfl (by decide) (by decide) (by decide) bl_32, .inr rfl, goodP_app (a := [_]) (good_nm hn hv bl_nil rfl) ⟨pok_sign (by decide) bl_10, .inl rfl, trivial⟩⟩
    · rw [if_neg (by omega), if_neg (by omega)]
      exact ⟨pok_word (c := _) (v := _) rfl (by decide) (by decide) (by decide) bl_32, .inr rfl, goodP_app (a := [_]) (good_nm hn hv bl_nil rfl) ⟨pok_sign (by decide) bl_10, .inl rfl, trivial⟩⟩
theorem scan_mdl {m : MdlD} (hm : checkM m = 0) (hl : (printL m).length ≤ 4000) : scanS (printL m) = (toksP 0 (mdlPc m), 0, 0) := by
  rw [← byt_mdl (prOk hm)] at hl ⊢
  exact scanS_good (good_mdl hm) hl
end Go.Proofs.YtogdmcebojiojaaGreatDoor
