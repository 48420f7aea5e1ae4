/- Texts of this proof, one behind the other: nothing is handed in but what is proved here; no condition. -/
import Derived.Test.YtajnbkhgnppckaaGreatDoorProg
import Derived.Test.YtajnbkhgnppckaaGreatDoorMA
import Derived.Lib.AppendZeros
import Derived.Test.YtajnbkhgnppckaaGreatDoorPStore5
import Derived.Test.YtajnbkhgnppckaaGreatDoorMI
import Derived.Test.YtajnbkhgnppckaaGreatDoorWExplain
/- What slices.Grow does to a list that is nil. -/
namespace Go.Proofs.YtajnbkhgnppckaaGreatDoor
open Go.RowKit
set_option linter.unusedVariables false
theorem z4z (w : World) : Calls Tryz.prog 215 #[.slice none 0 0, .int .i64 0] w fun e w' => e = .returned (.slice none 0 0) ∧ w = w' := by
 go_enter Tryz.func215, Tryz.ntmps215
 go_wp2
 all_goals go_ret
 all_goals exact ⟨rfl, rfl⟩
set_option maxRecDepth 100000 in
theorem z5z (n : Nat) (h0 : 0 < n) (h : n * 24 ≤ 140737488355328) (w : World) : Calls Tryz.prog 215 #[.slice none 0 0, .int .i64 n] w fun e w' => ∃ cap cells, e = .returned (.slice (some ⟨w.heap.size, 0, none⟩) 0 cap) ∧ w'.heap[w.heap.size]? = some (.cells cells 86 (0, 0)) ∧ cells.size = cap * 3 ∧ cap ≤ maxLen ∧ w'.heap.size = w.heap.size + 1 ∧ Below w.heap.size w w' := by
 go_enter Tryz.func215, Tryz.ntmps215
 have happ := Lib.run_append_nil_zeros (P := Tryz.prog) w 47 3 47 86 Tryz.t86 (.agg #[.int .i64 0, .int .i64 0, .int .i64 0]) .i64 .i64 Tryz.underlying47 Tryz.underlying3 (by kernel_rfl) (by kernel_rfl) n h0 (by decide) (by omega) (by show n * 24 ≤ _; omega)
 have hcap := grownCap_le_maxLen w n 0 86 (by unfold maxLen; omega)
 have hge := grownCap_ge w n 0 86
 generalize grownCap w n 0 86 = cap at happ hcap hge
 have hZs : (Builtin.zeroCells (Value.agg #[.int .i64 0, .int .i64 0, .int .i64 0]).cells n ++ Builtin.zeroCells (Value.agg #[.int .i64 0, .int .i64 0, .int .i64 0]).cells (cap - n)).size = cap * 3 := by
  simp [size_zeroCells, Value.cells]; omega
 generalize Builtin.zeroCells (Value.agg #[.int .i64 0, .int .i64 0, .int .i64 0]).cells n ++ Builtin.zeroCells (Value.agg #[.int .i64 0, .int .i64 0, .int .i64 0]).cells (cap - n) = Z at happ hZs
 go_wp2_with (at_builtin; refine Lib.wpList_append_run _ rfl _ _ _ _ rfl _ _ rfl rfl _ _ happ ?_)
 go_ret
 exact ⟨cap, Z, rfl, heap_alloc_new w _, hZs, hcap, by simp, ⟨rfl, rfl, rfl, by simp, fun k hk => Below.heap_alloc w _ k hk⟩⟩
end Go.Proofs.YtajnbkhgnppckaaGreatDoor
/- What slices.Grow and slices.Concat answer. -/
namespace Go.Proofs.YtajnbkhgnppckaaGreatDoor
open Go.RowKit
set_option linter.unusedVariables false
set_option linter.unusedSimpArgs false
theorem own_new {w w' : World} {S : Nat → Prop} {pl : Nat → Value} {v : Value} {e : TypeId} {t : Ty} {xs : List t.den} (hS : ∀ b, S b → b < w.heap.size) (hob : ∀ pl', ObOk w' S pl' v (.row e t xs)) (hb : ∀ b, oblk v = some b → w.heap.size ≤ b ∧ b < w'.heap.size) (hw : Below w.heap.size w w') :
  ∃ v' S' pl', Ending.returned v = .returned v' ∧ Rd w' S' pl' v' (.own 3000) ∧ HOk w' S' pl' [(3000, .row e t xs)] ∧ (∀ b, S' b → b < w'.heap.size) ∧ (∀ b, S' b → S b ∨ HBlk pl [] b ∨ w.heap.size ≤ b) ∧
   (∀ b, HBlk pl' [(3000, .row e t xs)] b → HBlk pl [] b ∨ w.heap.size ≤ b) ∧ (∀ k, stabK k = true → pl' k = pl k) ∧ BelowX w.heap.size (HBlk pl []) w w' := by
 have hlook : ∀ k o, look k [(3000, HObj.row e t xs)] = some o → k = 3000 ∧ o = .row e t xs := fun k o h => by
  rw [ze] at h
  split at h
  ·rename_i hk; injection h with h; exact ⟨hk.symm, h.symm⟩
  ·cases h
 refine ⟨v, S, fun j => if j = 3000 then v else pl j, rfl, (if_pos rfl).symm, ⟨fun k o h => ?_, fun k o b h hb2 => ?_, fun k k' o o' b h h' _ _ => ?_⟩, fun b h => Nat.lt_of_lt_of_le (hS b h) hw.size, fun b h => .inl h, fun b h => ?_, fun k hk => if_neg (fun e => by rw [e] at hk; cases hk), .of hw⟩
 ·obtain ⟨rfl, rfl⟩ := hlook k o h
  exact hob _
 ·obtain ⟨rfl, rfl⟩ := hlook k o h
  have hb2 : oblk v = some b := hb2
  exact ⟨(hb b hb2).2, fun hs => by have := hS b hs; have := (hb b hb2).1; omega⟩
 ·rw [(hlook k o h).1, (hlook k' o' h').1]
 ·obtain ⟨k, o, h1, h2⟩ := h
  obtain ⟨rfl, rfl⟩ := hlook k o h1
  have h2 : oblk v = some b := h2
  exact .inr (hb b h2).1
theorem z6z (n : Nat) (hn : n * 24 ≤ 140737488355328) : SatH Tryz.prog zjj [.nil, dI n] [] (.own 3000) [(3000, .row 86 .lit [])] := by
 intro w S vs pl hS hl hv hh _
 have e0 : vs.getD 0 undef = .slice none 0 0 := Rp.nil_inv (hv 0 _ rfl)
 have e1 : vs.getD 1 undef = .int .i64 n := (Rp.int_inv (hv 1 _ rfl)).1
 have ev : vs = #[.slice none 0 0, .int .i64 n] := by
  have hl2 : vs.size = 2 := hl
  apply Array.ext (by simp [hl2])
  intro i h1 h2
  simp [Array.getD_eq_getD_getElem?] at e0 e1
  match i, h1 with
  | 0, h1 => rw [Array.getElem?_eq_getElem h1] at e0; simpa using e0
  | 1, h1 => rw [Array.getElem?_eq_getElem h1] at e1; simpa using e1
  | i + 2, h1 => exact absurd h1 (by omega)
 subst ev
 by_cases h0 : n = 0
 ·subst h0
  refine (z4z w).mono fun e w' ⟨he, hw⟩ => ?_
  subst he hw
  exact own_new (t := .lit) (xs := []) hS (fun pl' => ⟨by show 0 * 24 ≤ lim; exact Nat.le_of_ble_eq_true rfl, [], rfl, ⟨rfl, .inl ⟨rfl, rfl⟩⟩, fun cs h => (by cases h), fun i x cs h => (by cases h)⟩) (fun b h => by cases h) (Below.refl _ _)
 ·refine (z5z n (by omega) hn w).mono fun e w' ⟨cap, cells, he, h1, h2, h3, h4, h5⟩ => ?_
  subst he
  refine own_new (t := .lit) (xs := []) hS (fun pl' => ⟨by show 0 * 24 ≤ lim; exact Nat.le_of_ble_eq_true rfl, [], rfl, ⟨rfl, .inr ⟨w.heap.size, cap, cells, rfl, Nat.zero_le _, h1, Nat.zero_le _, h3, h2, rfl⟩⟩, fun cs h => (by cases h), fun i x cs h => (by cases h)⟩) (fun b h => ?_) h5
  have : w.heap.size = b := by injection h
  omega
theorem zki {ls : List (List LitD)} (hl : ls.length ≤ 1000) (hr : ∀ l ∈ ls, l.length ≤ 1000000) : Sat Tryz.prog z7c [.sl (.list .lit) ls] (.sl .lit ls.flatten) :=
 zmt ls fun ok => by
  have flat : ∀ k, ((ls.take k).flatten).length ≤ k * 1000000 := fun k => by
   have h1 : ∀ xs : List (List LitD), (∀ l ∈ xs, l.length ≤ 1000000) → xs.flatten.length ≤ xs.length * 1000000 := fun xs => by
    induction xs with
    | nil => exact fun _ => Nat.le_refl _
    | cons a xs ih =>
     intro h
     have h1 := h a (List.mem_cons_self ..)
     have h2 := ih fun l hl => h l (List.mem_cons_of_mem _ hl)
     rw [List.flatten_cons, List.length_append, List.length_cons]; omega
   have := h1 (ls.take k) fun l hl => hr l (List.mem_of_mem_take hl)
   rw [List.length_take] at this
   exact Nat.le_trans this (Nat.mul_le_mul_right _ (Nat.min_le_left ..))
  have ftake : ∀ (k : Nat) (h : k < ls.length), (ls.take (k + 1)).flatten = (ls.take k).flatten ++ ls[k] := fun k h => by
   rw [← List.take_append_getElem h, List.flatten_append]; simp
  rw [zlt]
  refine up (I := fun n v (a : Int) => zLg ls _ n a v) 0 ls.length rfl (Nat.zero_le _) (by omega) (fun k a => a = (((ls.take k).flatten).length : Int)) rfl fun n k a _ hk ha hn => ?_
  subst ha
  rw [zkt]
  have hf := flat k
  by_cases h : k < ls.length
  ·have hm := hr _ (List.getElem_mem h)
   rw [sel_lt h, at_nat (t := .list .lit) h, w64_eq (by omega) (by omega)]
   refine ⟨inb_nat h, df (by omega) (hn h _ ?_)⟩
   rw [ftake k h, List.length_append]; omega
  ·have hk' : k = ls.length := by omega
   subst hk'
   rw [sel_end]
   refine ⟨[], z6z _ (by omega), ?_⟩
   refine up (I := fun n v (a : List LitD) => zKg ls _ n v a) 0 ls.length rfl (Nat.zero_le _) (by omega) (fun k a => a = (ls.take k).flatten) rfl fun n k a _ hk ha hn => ?_
   subst ha
   rw [zjt]
   have hf := flat k
   by_cases h : k < ls.length
   ·have hm := hr _ (List.getElem_mem h)
    rw [sel_lt h, at_nat (t := .list .lit) h]
    refine ⟨inb_nat h, room_of (t := .lit) ?_, hn h _ (ftake k h).symm⟩
    show (_ + _) * 24 ≤ _
    omega
   ·have hk' : k = ls.length := by omega
    subst hk'
    rw [sel_end, List.take_length]
end Go.Proofs.YtajnbkhgnppckaaGreatDoor
/- Why values go: the program's reasons. -/
namespace Go.Proofs.YtajnbkhgnppckaaGreatDoor
open Go.RowKit
set_option linter.unusedVariables false
set_option linter.unusedSimpArgs false
def goneV (s : List (List Int)) (v : Int) (l : List Int) : List LitD := (l.filter fun n => !hasI (s.getD v.toNat []) n).map fun n => ⟨v, 3, n⟩
def goneL (m : MdlD) (s : List (List Int)) (sc : List Int) : List LitD := sc.flatMap fun v => goneV s v (fullS m |>.getD v.toNat [])
def fewF (p : List LitD → Bool) : Nat → List LitD → Nat → List LitD
 | 0, l, _ => l
 | k + 1, l, i => if i < l.length then (if p (l.eraseIdx i) = true then fewF p k (l.eraseIdx i) i else fewF p k l (i + 1)) else l
def fewL (p : List LitD → Bool) (l : List LitD) : List LitD := fewF p l.length l 0
noncomputable def reasonC (m : MdlD) (con : Int) (must l : List LitD) : List LitD := must ++ fewL (fun l => byCon m con (must ++ l)) l
theorem zli (p : List LitD → Bool) : ∀ (k : Nat) (l : List LitD) (i : Nat), (fewF p k l i).Sublist l
 | 0, l, i => List.Sublist.refl _
 | k + 1, l, i => by
  rw [fewF]
  split
  ·split
   ·exact (zli p k _ i).trans (List.eraseIdx_sublist ..)
   ·exact zli p k l (i + 1)
  ·exact List.Sublist.refl _
theorem zmi (p : List LitD → Bool) : ∀ (k : Nat) (l : List LitD) (i : Nat), p l = true → p (fewF p k l i) = true
 | 0, l, i, h => h
 | k + 1, l, i, h => by
  rw [fewF]
  split
  ·split
   ·rename_i e; exact zmi p k _ i e
   ·exact zmi p k l (i + 1) h
  ·exact h
theorem z7z {l : List LitD} {i j : Nat} {x : LitD} (h : j < i) (hx : x ∈ (l.eraseIdx i).eraseIdx j) : x ∈ l.eraseIdx j := by
 induction l generalizing i j with
 | nil => cases i <;> cases hx
 | cons a l ih =>
  cases i with
  | zero => exact absurd h (Nat.not_lt_zero _)
  | succ i =>
   rw [List.eraseIdx_cons_succ] at hx
   cases j with
   | zero =>
    rw [List.eraseIdx_cons_zero] at hx ⊢
    exact (List.eraseIdx_sublist ..).subset hx
   | succ j =>
    rw [List.eraseIdx_cons_succ] at hx ⊢
    rcases List.mem_cons.1 hx with rfl | hx
    ·exact List.mem_cons_self ..
    ·exact List.mem_cons_of_mem _ (ih (by omega) hx)
theorem zek (p : List LitD → Bool) (hp : ∀ a b : List LitD, (∀ x ∈ a, x ∈ b) → p a = true → p b = true) : ∀ (k : Nat) (l : List LitD) (i : Nat), l.length ≤ k + i → (∀ j, j < i → j < l.length → p (l.eraseIdx j) = false) → ∀ j, j < (fewF p k l i).length → p ((fewF p k l i).eraseIdx j) = false
 | 0, l, i, hk, h, j, hj => h j (by have : (fewF p 0 l i).length = l.length := rfl; omega) hj
 | k + 1, l, i, hk, h, j, hj => by
  rw [fewF] at hj ⊢
  by_cases h1 : i < l.length
  ·rw [if_pos h1] at hj ⊢
   by_cases h2 : p (l.eraseIdx i) = true
   ·rw [if_pos h2] at hj ⊢
    have hl : (l.eraseIdx i).length = l.length - 1 := List.length_eraseIdx_of_lt h1
    refine zek p hp k _ i (by omega) (fun j' h3 h4 => ?_) j hj
    cases e : p ((l.eraseIdx i).eraseIdx j')
    ·rfl
    ·have h5 := h j' h3 (by omega)
     rw [hp _ (l.eraseIdx j') (fun x hx => z7z h3 hx) e] at h5
     cases h5
   ·rw [if_neg h2] at hj ⊢
    refine zek p hp k l (i + 1) (by omega) (fun j' h3 h4 => ?_) j hj
    by_cases e : j' = i
    ·subst e; simpa using h2
    ·exact h j' (by omega) h4
  ·rw [if_neg h1] at hj ⊢
   exact h j (by omega) hj
theorem z9o (p : List LitD → Bool) (hp : ∀ a b : List LitD, (∀ x ∈ a, x ∈ b) → p a = true → p b = true) (l : List LitD) : ∀ j, j < (fewL p l).length → p ((fewL p l).eraseIdx j) = false :=
 zek p hp l.length l 0 (Nat.le_refl _) fun j h => absurd h (Nat.not_lt_zero _)
theorem z8z {s : List (List Int)} {c c' : List LitD} (h : ∀ x ∈ c, x ∈ c') : leS (denyC s c') (denyC s c) :=
 zye (leS.refl s) fun v n _ e => by
  rw [Bool.not_eq_true'] at e ⊢
  cases e2 : atC c v n
  ·rfl
  ·obtain ⟨l, h1, h2, h3⟩ := atC_iff'.1 e2
   rw [atC_iff'.2 ⟨l, h l h1, h2, h3⟩] at e; cases e
theorem z9z {m : MdlD} {con : Int} (hat : atE m con = 0) {c c' : List LitD} (h : ∀ x ∈ c, x ∈ c') (hb : byCon m con c = true) : byCon m con c' = true := by
 obtain ⟨hr, _⟩ := zx hat
 have hop := zCe (zcb hat) (by have := hr.some; omega)
 have hl : (denyC (fullS m) c).length = m.vars.length := deny_le.1.trans zd
 cases e : byCon m con c' with
 | true => rfl
 | false =>
  have h2 := (hop.mono hl (z8z h) e).fail e
  rw [byCon, h2] at hb; cases hb
theorem zaA {m : MdlD} {con : Int} (hat : atE m con = 0) (must : List LitD) : ∀ a b : List LitD, (∀ x ∈ a, x ∈ b) → byCon m con (must ++ a) = true → byCon m con (must ++ b) = true := fun a b h => z9z hat fun x hx => by
 rcases List.mem_append.1 hx with hx | hx
 ·exact List.mem_append_left _ hx
 ·exact List.mem_append_right _ (h x hx)
theorem zap {m : MdlD} {s : List (List Int)} {sc : List Int} {x : LitD} : x ∈ goneL m s sc ↔ x.var ∈ sc ∧ x.op = 3 ∧ x.n ∈ (fullS m).getD x.var.toNat [] ∧ x.n ∉ s.getD x.var.toNat [] := by
 rw [goneL, List.mem_flatMap]
 constructor
 ·rintro ⟨v, hv, h⟩
  obtain ⟨n, hn, rfl⟩ := List.mem_map.1 h
  obtain ⟨h1, h2⟩ := List.mem_filter.1 hn
  refine ⟨hv, rfl, h1, fun h3 => ?_⟩
  rw [zn.2 h3] at h2; cases h2
 ·rintro ⟨h1, h2, h3, h4⟩
  refine ⟨x.var, h1, List.mem_map.2 ⟨x.n, List.mem_filter.2 ⟨h3, ?_⟩, by cases x; simp only at h2; rw [h2]⟩⟩
  cases e : hasI (s.getD x.var.toNat []) x.n
  ·rfl
  ·exact absurd (zn.1 e) h4
theorem zbA {m : MdlD} {s : List (List Int)} {sc : List Int} (must : List LitD) {v : Nat} (hv : (v : Int) ∈ sc) {n : Int} (hn : n ∈ (denyC (fullS m) (must ++ goneL m s sc)).getD v []) : n ∈ s.getD v [] := by
 rw [denyC, zp, List.mem_filter] at hn
 apply Classical.byContradiction
 intro h
 have h2 := hn.2
 rw [atC_iff'.2 ⟨⟨v, 3, n⟩, List.mem_append_right _ (zap.2 ⟨hv, rfl, by rw [Int.toNat_natCast]; exact hn.1, by rw [Int.toNat_natCast]; exact h⟩), rfl, by simp [holdsL]⟩] at h2
 cases h2
theorem gone_in {m : MdlD} {con : Int} {s : List (List Int)} (hat : atE m con = 0) (hl : s.length = m.vars.length) (hf : failS s = false) (must : List LitD) {vs : List Int} (hv : InS vs (denyC (fullS m) (must ++ goneL m s (scopeC (conAt m con) m.vars.length)))) (ht : trueC (conAt m con) vs = true) :
  ∃ us, InS us s ∧ trueC (conAt m con) us = true ∧ ∀ v : Nat, (v : Int) ∈ scopeC (conAt m con) m.vars.length → us.getD v 0 = vs.getD v 0 := by
 have hc := zcb hat
 obtain ⟨ps, hp⟩ := zze hf
 have hdl : (denyC (fullS m) (must ++ goneL m s (scopeC (conAt m con) m.vars.length))).length = m.vars.length := deny_le.1.trans zd
 have hg : ∀ u : Nat, u < s.length → ((List.range s.length).map fun u : Nat => if (u : Int) ∈ scopeC (conAt m con) m.vars.length then vs.getD u 0 else ps.getD u 0).getD u 0 = if (u : Int) ∈ scopeC (conAt m con) m.vars.length then vs.getD u 0 else ps.getD u 0 := fun u hu => z5h hu
 have hs : ∀ v : Nat, (v : Int) ∈ scopeC (conAt m con) m.vars.length → v < s.length := fun v h => by have := zsb _ h; omega
 refine ⟨(List.range s.length).map fun u : Nat => if (u : Int) ∈ scopeC (conAt m con) m.vars.length then vs.getD u 0 else ps.getD u 0, ⟨by simp, fun u hu => ?_⟩, ?_, fun v h => ?_⟩
 ·rw [hg u hu]
  split
  ·rename_i e
   exact zbA must e (hv.2 u (by rw [hdl]; omega))
  ·exact hp.2 u hu
 ·rw [← ht]
  exact zqb hc fun w h5 h6 => by rw [hg w (by omega), if_pos (zM.2 ⟨by omega, h6⟩)]
 ·rw [hg v (hs v h), if_pos h]
theorem zcA {m : MdlD} {con : Int} {s : List (List Int)} (hat : atE m con = 0) (hl : s.length = m.vars.length) (hf : failS s = false) {v : Nat} {n : Int} (hv : v < s.length) (hn : n ∈ s.getD v []) (hg : n ∉ (filterS (conAt m con) s).getD v []) :
  byCon m con ([⟨v, 4, n⟩] ++ goneL m s (scopeC (conAt m con) m.vars.length)) = true := by
 have hc := zcb hat
 obtain ⟨hr, _⟩ := zx hat
 have hop := zCe hc (by have := hr.some; omega)
 have hdl : (denyC (fullS m) ([⟨(v : Int), 4, n⟩] ++ goneL m s (scopeC (conAt m con) m.vars.length))).length = m.vars.length := deny_le.1.trans zd
 cases e : byCon m con ([⟨v, 4, n⟩] ++ goneL m s (scopeC (conAt m con) m.vars.length)) with
 | true => rfl
 | false =>
  obtain ⟨vs, h1, h2⟩ := (hop.nofail hdl).1 e
  obtain ⟨us, h3, h4, h5⟩ := gone_in hat hl hf _ h1 h2
  have hvn : vs.getD v 0 = n := by
   have h6 := h1.2 v (by rw [hdl]; omega)
   rw [denyC, zp, List.mem_filter, Bool.not_eq_true'] at h6
   apply Classical.byContradiction
   intro h7
   have h8 := h6.2
   rw [atC_iff'.2 ⟨⟨v, 4, n⟩, List.mem_append_left _ (List.mem_singleton.2 rfl), rfl, by generalize vs.getD v 0 = z at h7; simp [holdsL, h7]⟩] at h8
   cases h8
  have h6 := hop.keeps hl (h3.set hn hv) (by
   rw [← h4]
   refine zqb hc fun w h7 h8 => ?_
   rw [zk (by rw [h3.1]; exact hv)]
   split
   ·rename_i e; subst e; rw [h5 w (zM.2 ⟨by omega, h8⟩), hvn]
   ·rfl)
  have h7 := h6.2 v (by rw [hop.len hl]; omega)
  rw [zk (by rw [h3.1]; exact hv), if_pos rfl] at h7
  exact absurd h7 hg
theorem zdA {m : MdlD} {con : Int} {s : List (List Int)} (hat : atE m con = 0) (hl : s.length = m.vars.length) (hf : failS s = false) (hg : failS (filterS (conAt m con) s) = true) : byCon m con ([] ++ goneL m s (scopeC (conAt m con) m.vars.length)) = true := by
 have hc := zcb hat
 obtain ⟨hr, _⟩ := zx hat
 have hop := zCe hc (by have := hr.some; omega)
 have hdl : (denyC (fullS m) ([] ++ goneL m s (scopeC (conAt m con) m.vars.length))).length = m.vars.length := deny_le.1.trans zd
 cases e : byCon m con ([] ++ goneL m s (scopeC (conAt m con) m.vars.length)) with
 | true => rfl
 | false =>
  obtain ⟨vs, h1, h2⟩ := (hop.nofail hdl).1 e
  obtain ⟨us, h3, h4, h5⟩ := gone_in hat hl hf _ h1 h2
  rw [(hop.nofail hl).2 ⟨us, h3, h4⟩] at hg; cases hg
theorem zbp {c : ConD} {nv : Nat} (hc : RightC c nv) : (scopeC c nv).length ≤ 4 := by
 have hm := hc.many
 have hsub : ∀ x ∈ scopeC c nv, x ∈ c.vars ++ c.lits.map fun l => l.var := fun x hx => by
  rcases inC_of (zM.1 hx).2 with h | ⟨l, h, e⟩
  ·exact List.mem_append_left _ h
  ·exact List.mem_append_right _ (List.mem_map.2 ⟨l, h, e⟩)
 have h1 := (zGe (c := c) (nv := nv)).length_le_of_subset hsub
 rw [List.length_append, List.length_map] at h1
 by_cases h8 : c.kind ≤ 8
 ·have := z7j hc h8
  rw [this, List.length_nil] at h1; omega
 ·have hk := hc.kind
  by_cases h9 : c.kind = 9
  ·have := hc.formC.clause h9; omega
  ·have := hc.formC.iff (by omega); omega
theorem zyd {m : MdlD} (hr : Right m) (v : Nat) : ((fullS m).getD v []).length ≤ 6 := by
 by_cases hv : v < m.vars.length
 ·have := hr.var _ (List.getElem_mem hv)
  rw [zwd hv, fullV, zbc]; omega
 ·rw [zj (by rw [zd]; omega)]; exact Nat.zero_le _
theorem zcp {s : List (List Int)} {v : Int} {l : List Int} : (goneV s v l).length ≤ l.length := by rw [goneV, List.length_map]; exact List.length_filter_le ..
theorem zdp {m : MdlD} (hr : Right m) {s : List (List Int)} (sc : List Int) : (goneL m s sc).length ≤ sc.length * 6 := zei fun v _ => Nat.le_trans zcp (zyd hr _)
theorem zep {m : MdlD} {con : Int} {s : List (List Int)} (hat : atE m con = 0) (hl : s.length = m.vars.length) : Sat Tryz.prog zae [dM m, dI con, dS s] (.sl .lit (goneL m s (scopeC (conAt m con) m.vars.length))) :=
 z3z m con s fun ok => by
  obtain ⟨hr, hcon⟩ := zx hat
  have hc := zcb hat
  rw [z2z]
  refine ⟨inb_iff.2 hcon, ?_⟩
  show Call1 Tryz.prog z1b [dC (conAt m con)] (.list .int) fun m1 => _
  refine call1 (zZh hc) ?_
  have hsl := zbp hc
  have hsv : ∀ v ∈ scopeC (conAt m con) m.vars.length, 0 ≤ v ∧ v < m.vars.length := fun v hv => zsb v hv
  generalize scopeC (conAt m con) m.vars.length = sc at hsl hsv ⊢
  refine up (I := fun n v a => zji m s _ sc n v a) 0 sc.length rfl (Nat.zero_le _) (by omega) (fun k a => a = goneL m s (sc.take k)) rfl fun n k a _ hk ha hn => ?_
  subst ha
  rw [z1z]
  by_cases h : k < sc.length
  ·have hvk := hsv _ (List.getElem_mem h)
   have hvl : sc[k].toNat < m.vars.length := by omega
   rw [sel_lt h, at_nat (t := .int) h]
   refine ⟨inb_nat h, inb_iff.2 hvk, ?_⟩
   have hat2 : at' .var m.vars sc[k].toNat = m.vars[sc[k].toNat] := atN (t := .var) hvl
   have hvr := hr.var _ (List.getElem_mem hvl)
   have hfull : (fullS m).getD sc[k].toNat [] = fullV m.vars[sc[k].toNat] := zwd hvl
   have hstep : goneL m s (sc.take (k + 1)) = goneL m s (sc.take k) ++ goneV s sc[k] (fullV m.vars[sc[k].toNat]) := by rw [goneL, zEo _ h, hfull]; rfl
   have hgl := zdp hr (s := s) (sc.take k)
   rw [List.length_take] at hgl
   generalize goneL m s (sc.take k) = pre at hstep hgl ⊢
   rw [hat2]
   refine upto (I := fun n2 v a => zQe m s _ sc n (k : Int) n2 v a) (m.vars[sc[k].toNat]).lo (m.vars[sc[k].toNat]).hi (by omega) (by omega) (fun j a => a = pre ++ goneV s sc[k] (upL (m.vars[sc[k].toNat]).lo (j - (m.vars[sc[k].toNat]).lo).toNat) ∧ j ≤ (m.vars[sc[k].toNat]).hi + 1) ⟨by rw [Int.sub_self]; exact (List.append_nil _).symm, by omega⟩ fun n2 j a hj hi hn2 => ?_
   obtain ⟨rfl, hjm⟩ := hi
   rw [z0z, at_nat (t := .int) h, hat2]
   have hgv := zcp (s := s) (v := sc[k]) (l := upL (m.vars[sc[k].toNat]).lo (j - (m.vars[sc[k].toNat]).lo).toNat)
   rw [zbc] at hgv
   refine ⟨inb_iff.2 hvk, za (fun e => ?_) fun e => ?_⟩
   ·have e := of_decide_eq_true e
    have hgs : ∀ b, hasI (s.getD sc[k].toNat []) j = b → goneV s sc[k] (upL (m.vars[sc[k].toNat]).lo (j + 1 - (m.vars[sc[k].toNat]).lo).toNat) = goneV s sc[k] (upL (m.vars[sc[k].toNat]).lo (j - (m.vars[sc[k].toNat]).lo).toNat) ++ (if b = true then [] else [(⟨sc[k], 3, j⟩ : LitD)]) := fun b hb => by
     rw [zwj hj, goneV, List.filter_append, List.map_append, List.filter_cons, hb]
     cases b <;> rfl
    refine ⟨inb_iff.2 (by omega), call1 (zoe (a := j)) ?_⟩
    show sel (!hasI (s.getD sc[k].toNat []) j) _ _
    refine za (fun f => ⟨room_of (t := .lit) ?_, hn2 e _ ⟨?_, by omega⟩⟩) fun f => hn2 e _ ⟨?_, by omega⟩
    ·rw [List.length_append]; show (_ + _ + 1) * 24 ≤ _; omega
    ·rw [hgs false (by simpa using f), List.append_assoc]; rfl
    ·rw [hgs true (by simpa using f)]; simp
   ·have e := of_decide_eq_false e
    refine hn h _ ?_
    rw [hstep, fullV, show j = (m.vars[sc[k].toNat]).hi + 1 by omega]
  ·have hk' : k = sc.length := by omega
   subst hk'
   rw [sel_end, List.take_length]
theorem inSl_of {lo hi : Int} {n : Nat} (h1 : 0 ≤ lo) (h2 : lo ≤ hi) (h3 : hi ≤ n) : inSl lo hi n = true := by
 unfold inSl; simp; omega
theorem zfp {m : MdlD} {con : Int} {must l : List LitD} (hat : atE m con = 0) (hm : must.length ≤ 1000000) (hl : l.length ≤ 1000000) : Sat Tryz.prog z9d [dM m, dI con, .sl .lit must, .sl .lit l] (.sl .lit (reasonC m con must l)) :=
 zZz m con must l fun ok => by
  rw [zYz, reasonC, fewL]
  suffices H : ∀ (k : Nat) (l' : List LitD) (i : Nat), l'.length ≤ k + i → i ≤ l'.length → l'.length ≤ 1000000 → ∀ r, r = must ++ fewF (fun l => byCon m con (must ++ l)) k l' i → zPe m con must (fun d => d = .sl .lit r) (k + 1) l' (i : Int) from ⟨_, H l.length l 0 (Nat.le_refl _) (Nat.zero_le _) hl _ rfl⟩
  intro k
  induction k with
  | zero =>
   intro l' i h1 h2 h3 r hr
   have hi : i = l'.length := by omega
   subst hi
   rw [z8o, sel_end]
   refine call1 (zki (ls := [must, l']) (by show 2 ≤ 1000; decide) fun x hx => ?_) ?_
   ·rcases List.mem_cons.1 hx with rfl | hx
    ·exact hm
    ·rw [List.mem_singleton.1 hx]; exact h3
   ·rw [hr, fewF]; simp
  | succ k ih =>
   intro l' i h1 h2 h3 r hr
   rw [z8o]
   by_cases h : i < l'.length
   ·have hw : w64 ((i : Int) + 1) = ((i + 1 : Nat) : Int) := w64_up (by omega)
    rw [fewF, if_pos h] at hr
    have hel : (l'.eraseIdx i).length = l'.length - 1 := List.length_eraseIdx_of_lt h
    rw [sel_lt h, hw, Int.toNat_natCast, Int.toNat_natCast, Int.toNat_natCast, List.drop_zero, List.take_length]
    have hcat := zki (ls := [l'.take i, l'.drop (i + 1)]) (by show 2 ≤ 1000; decide) fun x hx => by
     rcases List.mem_cons.1 hx with rfl | hx
     ·rw [List.length_take]; omega
     ·rw [List.mem_singleton.1 hx, List.length_drop]; omega
    have he : [l'.take i, l'.drop (i + 1)].flatten = l'.eraseIdx i := by rw [List.eraseIdx_eq_take_drop_succ]; simp
    rw [he] at hcat
    refine ⟨inSl_of (Int.le_refl _) (by omega) (by omega), inSl_of (by omega) (by omega) (Int.le_refl _), call1 hcat ?_⟩
    have hcat2 := zki (ls := [must, l'.eraseIdx i]) (by show 2 ≤ 1000; decide) fun x hx => by
     rcases List.mem_cons.1 hx with rfl | hx
     ·exact hm
     ·rw [List.mem_singleton.1 hx]; omega
    have he2 : [must, l'.eraseIdx i].flatten = must ++ l'.eraseIdx i := by simp
    rw [he2] at hcat2
    refine call1 hcat2 (call1 (zMz hat) (za (fun e => ?_) fun e => ?_))
    ·rw [if_pos e] at hr
     exact ih _ i (by omega) (by omega) (by omega) r hr
    ·rw [if_neg (by rw [e]; decide)] at hr
     exact ih l' (i + 1) (by omega) (by omega) h3 r hr
   ·have hi : i = l'.length := by omega
    subst hi
    rw [fewF, if_neg (Nat.lt_irrefl _)] at hr
    rw [sel_end]
    refine call1 (zki (ls := [must, l']) (by show 2 ≤ 1000; decide) fun x hx => ?_) ?_
    ·rcases List.mem_cons.1 hx with rfl | hx
     ·exact hm
     ·rw [List.mem_singleton.1 hx]; exact h3
    ·rw [hr]; simp
noncomputable def goneB (m : MdlD) (con : Int) (s : List (List Int)) (v n : Int) : Bool := !failS s && (hasI (s.getD v.toNat []) n && !hasI ((filterS (conAt m con) s).getD v.toNat []) n)
noncomputable def emptyB (m : MdlD) (con : Int) (s : List (List Int)) : Bool := !failS s && failS (filterS (conAt m con) s)
noncomputable def goneC (m : MdlD) (con : Int) (s : List (List Int)) (v n : Int) : List LitD := if goneB m con s v n = true then reasonC m con [⟨v, 4, n⟩] (goneL m s (scopeC (conAt m con) m.vars.length)) else []
noncomputable def emptyC (m : MdlD) (con : Int) (s : List (List Int)) : List LitD := if emptyB m con s = true then reasonC m con [] (goneL m s (scopeC (conAt m con) m.vars.length)) else []
theorem zfk {m : MdlD} {con : Int} (hat : atE m con = 0) {s : List (List Int)} : (goneL m s (scopeC (conAt m con) m.vars.length)).length ≤ 24 := by
 have h1 := zdp (zx hat).1 (s := s) (scopeC (conAt m con) m.vars.length)
 have h2 := zbp (zcb hat)
 omega
theorem zeA {m : MdlD} {con : Int} {s : List (List Int)} {v n : Int} (hr : FiltR m con s) (hv : 0 ≤ v ∧ v < s.length) : Sat Tryz.prog zcg [dM m, dI con, dS s, dI v, dI n] (.tup [.sl .lit (goneC m con s v n), dB (goneB m con s v n)]) :=
 zXz m con s v n fun ok => by
  have hat := atE_of hr.chk hr.cn
  have hs := ztb (zY hr.chk) hr.st
  have hl := hs.len
  rw [zWz]
  refine call1 (zv s) (za (fun e => ?_) fun e => ?_)
  ·have e : failS s = true := e
   rw [goneC, goneB, e]; rfl
  have e : failS s = false := e
  refine ⟨inb_iff.2 hv, call1 (zoe (a := n)) ?_⟩
  show sel (!hasI (s.getD v.toNat []) n) _ _
  refine za (fun f => ?_) fun f => ?_
  ·have f : hasI (s.getD v.toNat []) n = false := by simpa using f
   rw [goneC, goneB, e, f]; rfl
  have f : hasI (s.getD v.toNat []) n = true := by simpa using f
  refine ⟨inb_iff.2 hr.cn, call1 (zLe (c := conAt m con) (by rw [hl]; exact hr.right) (by rw [hl]; exact hs)) ⟨inb_iff.2 (by rw [hr.op.len hl]; omega), call1 (zoe (a := n)) ?_⟩⟩
  show sel (hasI ((filterS (conAt m con) s).getD v.toNat []) n) _ _
  refine za (fun g => ?_) fun g => ?_
  ·rw [goneC, goneB, e, f, g]; rfl
  ·have hb : goneB m con s v n = true := by rw [goneB, e, f, g]; rfl
   rw [goneC, if_pos hb, hb]
   have := zfk hat (s := s)
   exact call1 (zep hat hl) (call1 (zfp hat (by show 1 ≤ 1000000; decide) (by omega)) rfl)
theorem zfA {m : MdlD} {con : Int} {s : List (List Int)} (hr : FiltR m con s) : Sat Tryz.prog zbg [dM m, dI con, dS s] (.tup [.sl .lit (emptyC m con s), dB (emptyB m con s)]) :=
 zVz m con s fun ok => by
  have hat := atE_of hr.chk hr.cn
  have hs := ztb (zY hr.chk) hr.st
  have hl := hs.len
  rw [zUz]
  refine call1 (zv s) (za (fun e => ?_) fun e => ?_)
  ·have e : failS s = true := e
   rw [emptyC, emptyB, e]; rfl
  have e : failS s = false := e
  refine ⟨inb_iff.2 hr.cn, call1 (zLe (c := conAt m con) (by rw [hl]; exact hr.right) (by rw [hl]; exact hs)) (call1 (zv _) ?_)⟩
  refine za (fun g => ?_) fun g => ?_
  ·have g : failS (filterS (conAt m con) s) = false := by simpa using g
   rw [emptyC, emptyB, e, g]; rfl
  ·have g : failS (filterS (conAt m con) s) = true := by simpa using g
   have hb : emptyB m con s = true := by rw [emptyB, e, g]; rfl
   rw [emptyC, if_pos hb, hb]
   have := zfk hat (s := s)
   exact call1 (zep hat hl) (call1 (zfp hat (by decide) (by omega)) rfl)
end Go.Proofs.YtajnbkhgnppckaaGreatDoor
/- The laws of reasons. -/
namespace Go.Proofs.YtajnbkhgnppckaaGreatDoor
open Go.RowKit
set_option linter.unusedVariables false
set_option linter.unusedSimpArgs false
structure IsReason (m : MdlD) (con : Int) (s : List (List Int)) (must r : List LitD) : Prop where
 says : byCon m con (must ++ r) = true
 few : ∀ j, j < r.length → byCon m con (must ++ r.eraseIdx j) = false
 told : ∀ x ∈ r, x.op = 3 ∧ toldL s x = -1 ∧ litE m.vars.length x = 0
 len : r.length ≤ 24
theorem zgA {s : List (List Int)} {x : LitD} (h : ∀ n ∈ s.getD x.var.toNat [], holdsL x n = false) : toldL s x = -1 := by
 rw [toldL, toldR, if_pos]
 rw [List.any_eq_false]
 exact fun n hn => by rw [h n hn]; decide
theorem zni {m : MdlD} (hr : Right m) {x : LitD} (hv : 0 ≤ x.var ∧ x.var < (m.vars.length : Int)) (ho : 1 ≤ x.op ∧ x.op ≤ 4) (hn : x.n ∈ (fullS m).getD x.var.toNat []) : litE m.vars.length x = 0 := by
 have hvl : x.var.toNat < m.vars.length := by omega
 rw [zwd hvl, zbk] at hn
 have := hr.var _ (List.getElem_mem hvl)
 exact zJ.2 ⟨hv, ho, by omega⟩
theorem zgp {m : MdlD} {con : Int} {s : List (List Int)} (hat : atE m con = 0) {must : List LitD} (h : byCon m con (must ++ goneL m s (scopeC (conAt m con) m.vars.length)) = true) :
  IsReason m con s must (fewL (fun l => byCon m con (must ++ l)) (goneL m s (scopeC (conAt m con) m.vars.length))) := by
 have hsub := zli (fun l => byCon m con (must ++ l)) (goneL m s (scopeC (conAt m con) m.vars.length)).length (goneL m s (scopeC (conAt m con) m.vars.length)) 0
 refine ⟨zmi (fun l => byCon m con (must ++ l)) _ _ 0 h, fun j hj => z9o _ (zaA hat must) _ j hj, fun x hx => ?_, Nat.le_trans hsub.length_le (zfk hat)⟩
 obtain ⟨h1, h2, h3, h4⟩ := zap.1 (hsub.subset hx)
 have hv := zsb _ h1
 refine ⟨h2, zgA fun n hn => ?_, zni (zx hat).1 hv (by omega) h3⟩
 have hne : n ≠ x.n := fun e => h4 (by rw [← e]; exact hn)
 obtain ⟨xv, xo, xn⟩ := x
 simp only at h2 hne
 subst h2
 simp [holdsL, hne]
theorem zhp {nv : Nat} {c : List LitD} (hl : c.length ≤ 40) (h : ∀ x ∈ c, litE nv x = 0) : clauseE nv c = 0 := by
 rw [clauseE, if_neg (by omega)]
 have : ∀ (xs : List LitD) (i : Nat), (∀ x ∈ xs, litE nv x = 0) → firstE (fun _ l => litE nv l) i xs = 0 := fun xs => by
  induction xs with
  | nil => exact fun _ _ => rfl
  | cons a xs ih =>
   intro i h
   rw [firstE, if_pos (h a (List.mem_cons_self ..))]
   exact ih _ fun x hx => h x (List.mem_cons_of_mem _ hx)
 exact this c 0 h
theorem IsReason.clause {m : MdlD} {con : Int} {s : List (List Int)} {must r : List LitD} (h : IsReason m con s must r) (hm : must.length ≤ 1) (hml : ∀ x ∈ must, litE m.vars.length x = 0) : clauseE m.vars.length (must ++ r) = 0 :=
 zhp (by rw [List.length_append]; have := h.len; omega) fun x hx => by
  rcases List.mem_append.1 hx with hx | hx
  ·exact hml x hx
  ·exact (h.told x hx).2.2
end Go.Proofs.YtajnbkhgnppckaaGreatDoor
