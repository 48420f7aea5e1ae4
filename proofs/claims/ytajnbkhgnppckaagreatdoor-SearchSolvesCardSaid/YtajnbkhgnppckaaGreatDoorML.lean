/- Texts of this proof, one behind the other: nothing is handed in but what is proved here; no condition. -/
import Derived.Test.YtajnbkhgnppckaaGreatDoorMK
import Derived.Test.YtajnbkhgnppckaaGreatDoorMI
import Derived.Lib.ItoaNum
import Derived.Test.YtajnbkhgnppckaaGreatDoorWSlices
import Derived.Test.YtajnbkhgnppckaaGreatDoorMC
import Derived.Lib.AppendIntMem
import Derived.Lib.ItoaLen
/- Searches, in plain words: stronger clauses, the way down, and which choices are still open. -/
namespace Go.Proofs.YtajnbkhgnppckaaGreatDoor
open Go.RowKit
set_option linter.unusedVariables false
set_option linter.unusedSimpArgs false
def Entl (l' l : List (List LitD)) : Prop := ∀ c ∈ l, ∃ c' ∈ l', ∀ vs : List Int, holdsC c' vs = true → holdsC c vs = true
theorem Entl.sub {l' l : List (List LitD)} (h : ∀ c ∈ l, c ∈ l') : Entl l' l := fun c hc => ⟨c, h c hc, fun _ h => h⟩
theorem Entl.refl (l : List (List LitD)) : Entl l l := .sub fun _ h => h
theorem Entl.trans {a b c : List (List LitD)} (h : Entl a b) (h' : Entl b c) : Entl a c := fun x hx => by
 obtain ⟨y, hy, e⟩ := h' x hx
 obtain ⟨z, hz, e'⟩ := h y hy
 exact ⟨z, hz, fun vs h => e vs (e' vs h)⟩
theorem zUA {nv : Nat} {op op' : Op} {Q Q' : List Int → Bool} (h : IsOp nv op Q) (h' : IsOp nv op' Q') (hq : ∀ vs, Q' vs = true → Q vs = true) {s : List (List Int)} (hl : s.length = nv) (hp : 0 < s.length) (hf : failS s = false) (hs : op' s = s) : op s = s := by
 have hm : ∀ (v : Nat) (n : Int), n ∈ s.getD v [] → ∃ us, InS us s ∧ us.getD v 0 = n ∧ Q us = true := fun v n hn => by
  obtain ⟨us, a, b, c⟩ := h'.congr (Q' := Q') hl (vs := []) hs hf v n hn
  exact ⟨us, a, b, hq us c⟩
 have hex : ∃ vs, InS vs s ∧ Q vs = true := by
  have h0 := zy.1 hf 0 hp
  obtain ⟨n, hn⟩ := List.exists_mem_of_ne_nil _ h0
  obtain ⟨us, a, _, c⟩ := hm 0 n hn
  exact ⟨us, a, c⟩
 rw [h.some s hl hf hex]
 exact zdc fun v n hn => zA.2 (hm v n hn)
section
variable {m : MdlD} {l l' : List (List LitD)} {cons : Bool} {s t : List (List Int)}
theorem zBp (hl : RightMC m l) (hl' : RightMC m l') (he : Entl l' l) (hs : s.length = m.vars.length) (hf : failS s = false) (h : Stab (opsOf m cons l') s) : Stab (opsOf m cons l) s := fun op ho => by
 have hp := hl.pos
 rcases mem_ops.1 ho with ⟨hc, c, hc2, rfl⟩ | ⟨c, hc, rfl⟩
 ·exact h _ (mem_ops.2 (.inl ⟨hc, c, hc2, rfl⟩))
 ·obtain ⟨c', hc', e⟩ := he c hc
  exact zUA (zGc hl hc) (zGc hl' hc') e hs (by omega) hf (h _ (mem_ops.2 (.inr ⟨c', hc', rfl⟩)))
theorem run_le (hl : RightMC m l) (hs : s.length = m.vars.length) : leS (runS m cons l s) s := (zub hl hs).le
theorem run_len (hl : RightMC m l) (hs : s.length = m.vars.length) : (runS m cons l s).length = m.vars.length := (run_le hl hs).1.trans hs
theorem zHc (hl : RightMC m l) (hs : s.length = m.vars.length) (hf : failS (runS m cons l s) = false) : Stab (opsOf m cons l) (runS m cons l s) := by
 rcases (zub (cons := cons) hl hs).out with ⟨_, h⟩ | h
 ·exact h
 ·rw [h, zec (by have := hl.pos; omega)] at hf; cases hf
theorem run_all (hl : RightMC m l) (hs : s.length = m.vars.length) (ht : leS t s) (hf : failS t = false) (h : Stab (opsOf m cons l) t) : leS t (runS m cons l s) := (zub hl hs).all t ht hf h
theorem zCp (hl : RightMC m l) (hs : s.length = m.vars.length) (hf : failS (runS m cons l s) = true) : runS m cons l s = noneS s := by
 rcases (zub (cons := cons) hl hs).out with ⟨h, _⟩ | h
 ·rw [h] at hf; cases hf
 ·exact h
theorem run_ent (hl : RightMC m l) (hl' : RightMC m l') (he : Entl l' l) (hs : s.length = m.vars.length) (h : failS (runS m cons l s) = true) : failS (runS m cons l' s) = true := by
 cases hf : failS (runS m cons l' s)
 ·have hs' := run_len (cons := cons) hl' hs
  have := run_all hl hs (run_le hl' hs) hf (zBp hl hl' he hs' hf (zHc hl' hs hf))
  rw [this.fail hf] at h; cases h
 ·rfl
theorem zVA {f : Nat → Int → Bool} (hl : RightMC m l) (hs : s.length = m.vars.length) (hf : failS (runS m cons l s) = false) : runS m cons l (keepS f (runS m cons l s)) = runS m cons l (keepS f s) := by
 have hr := run_len (cons := cons) hl hs
 have k1 : (keepS f (runS m cons l s)).length = m.vars.length := zw.trans hr
 have k2 : (keepS f s).length = m.vars.length := zw.trans hs
 refine runS_eq hl k1 ⟨?_, fun t ht hft hst => ?_, ?_⟩
 ·cases hq : failS (runS m cons l (keepS f s))
  ·have h1 := run_le (cons := cons) hl k2
   have h2 := run_all hl hs (h1.trans zKb) hq (zHc hl k2 hq)
   refine ⟨h2.1.trans (hr.trans k1.symm), fun v => ?_⟩
   rw [zp]
   have h3 := h1.2 v
   rw [zp] at h3
   have h4 : (runS m cons l (keepS f s)).getD v [] = ((runS m cons l (keepS f s)).getD v []).filter (f v) := (List.filter_eq_self.2 fun n hn => (List.mem_filter.1 (h3.subset hn)).2).symm
   rw [h4]
   exact (h2.2 v).filter _
  ·rw [zCp hl k2 hq]
   exact znd (k2.trans k1.symm)
 ·refine run_all hl k2 (ht.trans ?_) hft hst
  exact zye (run_le hl hs) fun v n _ h => h
 ·cases hq : failS (runS m cons l (keepS f s))
  ·exact .inl ⟨rfl, zHc hl k2 hq⟩
  ·refine .inr ?_
   rw [zCp hl k2 hq]
   exact z2h (k2.trans k1.symm)
theorem zWA {c : List LitD} (hl : RightMC m l) (hl' : RightMC m l') (he : Entl l' l) (h : byUnit m l c = true) : byUnit m l' c = true :=
 run_ent hl hl' he (deny_le.1.trans zd) h
theorem zXA {st : StepD} (hl : RightMC m l) (hl' : RightMC m l') (he : Entl l' l) (h : stepB m l st = true) : stepB m l' st = true := by
 unfold stepB at h ⊢
 by_cases h1 : st.kind = 1
 ·rw [if_pos h1] at h ⊢; exact h
 ·rw [if_neg h1] at h ⊢
  by_cases h2 : st.kind = 2
  ·rw [if_pos h2, Bool.and_eq_true] at h ⊢
   exact ⟨h.1, zWA hl hl' he h.2⟩
  ·rw [if_neg h2] at h; cases h
end
abbrev openI (s : List (List Int)) : Int := ixI (fun r => decide (1 < r.length)) s 0
def keep1 (s : List (List Int)) (v n : Int) : List (List Int) := keepS (fun w k => !decide ((w : Int) = v) || decide (k = n)) s
def valsS (s : List (List Int)) : List Int := s.map fun r => r.getD 0 0
noncomputable def fixD (m : MdlD) (l : List (List LitD)) (d : List LitD) : List (List Int) := runS m true l (putS m d)
noncomputable def downF (m : MdlD) (l : List (List LitD)) : Nat → List (List Int) → List LitD → List LitD × Bool × List Int
 | 0, s, d => (d, false, [])
 | k + 1, s, d => if failS s = true then (d, false, []) else if openI s < 0 then ([], true, valsS s)
   else downF m l k (runS m true l (keep1 s (openI s) ((s.getD (openI s).toNat []).getD 0 0))) (d ++ [⟨openI s, 3, (s.getD (openI s).toNat []).getD 0 0⟩])
noncomputable def downS (m : MdlD) (l : List (List LitD)) : List LitD × Bool × List Int := downF m l (m.vars.length + 1) (runS m true l (fullS m)) []
theorem zDp {α : Type} {p : α → Bool} : ∀ (xs : List α) (i : Nat), (ixI p xs (i : Int) = -1 ∧ ∀ x ∈ xs, p x = false) ∨ ∃ k, k < xs.length ∧ ixI p xs (i : Int) = ((i + k : Nat) : Int) ∧ (∀ h : k < xs.length, p xs[k] = true) ∧ ∀ j (hj : j < xs.length), j < k → p xs[j] = false
 | [], i => .inl ⟨rfl, fun x hx => by cases hx⟩
 | x :: xs, i => by
  rw [ixI]
  cases hx : p x
  ·rw [cond_false]
   rcases zDp xs (i + 1) with ⟨h1, h2⟩ | ⟨k, hk, h1, h2, h3⟩
   ·refine .inl ⟨h1, fun y hy => ?_⟩
    rcases List.mem_cons.1 hy with rfl | hy
    ·exact hx
    ·exact h2 y hy
   ·refine .inr ⟨k + 1, by simp; omega, by rw [show ((i : Int) + 1) = ((i + 1 : Nat) : Int) by omega, h1]; omega, fun h => by simpa using h2 hk, fun j hj hjk => ?_⟩
    match j with
    | 0 => exact hx
    | j + 1 => simpa using h3 j (by simpa using hj) (by omega)
  ·rw [cond_true]
   exact .inr ⟨0, by simp, rfl, fun _ => hx, fun j _ hj => by omega⟩
theorem zpk (s : List (List Int)) : (openI s = -1 ∧ ∀ v : Nat, (s.getD v []).length ≤ 1) ∨ ∃ v : Nat, openI s = (v : Int) ∧ v < s.length ∧ 1 < (s.getD v []).length ∧ ∀ w : Nat, w < v → (s.getD w []).length ≤ 1 := by
 have h : (openI s = -1 ∧ _) ∨ ∃ k, k < s.length ∧ openI s = ((0 + k : Nat) : Int) ∧ _ := zDp (p := fun r : List Int => decide (1 < r.length)) s 0
 rcases h with ⟨h1, h2⟩ | ⟨k, hk, h1, h2, h3⟩
 ·refine .inl ⟨h1, fun v => ?_⟩
  by_cases hv : v < s.length
  ·have := h2 _ (List.getElem_mem hv)
   rw [getD_at _ hv]; simpa using this
  ·rw [zj (by omega)]; exact Nat.zero_le _
 ·refine .inr ⟨k, by rw [h1]; omega, hk, ?_, fun w hw => ?_⟩
  ·have := h2 hk
   rw [getD_at _ hk]; simpa using this
  ·have := h3 w (by omega) hw
   rw [getD_at _ (by omega)]; simpa using this
section
variable {m : MdlD} {l l' : List (List LitD)} {d : List LitD}
theorem zCd (hl : RightMC m l) : (fixD m l d).length = m.vars.length := run_len hl put_len
theorem fixD_le (hl : RightMC m l) : leS (fixD m l d) (putS m d) := run_le hl put_len
theorem zIc (hl : RightMC m l) : leS (fixD m l d) (fullS m) := (fixD_le hl).trans putS_le
theorem put_one {v n : Int} : putS m (d ++ [⟨v, 3, n⟩]) = keep1 (putS m d) v n := by
 rw [putS, List.foldl_append]
 show putL (putS m d) _ = _
 rw [putL, keep1]
 exact zBe fun w k _ => by simp [holdsL]
theorem zwi (hl : RightMC m l) (hf : failS (fixD m l d) = false) {v n : Int} : runS m true l (keep1 (fixD m l d) v n) = fixD m l (d ++ [⟨v, 3, n⟩]) := by
 rw [fixD, fixD, put_one, keep1, keep1]
 exact zVA hl put_len hf
structure WayR (m : MdlD) (l : List (List LitD)) (d : List LitD) : Prop where
 ok : ∀ x ∈ d, x.op = 3 ∧ 0 ≤ x.var ∧ x.var < (m.vars.length : Int) ∧ x.n ∈ (fullS m).getD x.var.toNat []
 thin : ∀ x ∈ d, ∀ w : Nat, (w : Int) ≤ x.var → ((fixD m l d).getD w []).length ≤ 1
 few : ∀ w : Nat, 1 < ((fixD m l d).getD w []).length → d.length ≤ w
 len : d.length ≤ m.vars.length
theorem WayR.nil : WayR m l [] := ⟨fun x hx => (by cases hx), fun x hx => (by cases hx), fun w _ => Nat.zero_le _, Nat.zero_le _⟩
theorem zYA (hl : RightMC m l) (hf : failS (fixD m l d) = false) {v n : Int} : leS (fixD m l (d ++ [⟨v, 3, n⟩])) (keep1 (fixD m l d) v n) := by
 rw [← zwi hl hf]; exact run_le hl (zw.trans (zCd hl))
theorem zqk {a : List Int} (h : a.Nodup) (n : Int) : (a.filter fun k => decide (k = n)).length ≤ 1 := by
 induction a with
 | nil => exact Nat.zero_le _
 | cons x a ih =>
  rw [List.filter_cons]
  by_cases e : x = n
  ·rw [if_pos (by simpa using e)]
   have : (a.filter fun k => decide (k = n)) = [] := List.filter_eq_nil_iff.2 fun y hy => by
    have := (List.nodup_cons.1 h).1
    intro e2
    have e2 : y = n := by simpa using e2
    rw [e2, ← e] at hy; exact this hy
   rw [this]; exact Nat.le_refl _
  ·rw [if_neg (by simpa using e)]
   exact ih (List.nodup_cons.1 h).2
theorem zEp (v : Nat) : ((fullS m).getD v []).Nodup := by
 by_cases hv : v < m.vars.length
 ·rw [zwd hv]; exact zZj _ _
 ·rw [zj (by rw [zd]; omega)]; exact List.nodup_nil
theorem zrk {a : List Int} (h : 0 < a.length) : a.getD 0 0 ∈ a := by
 match a, h with
 | x :: a, _ => exact List.mem_cons_self
theorem WayR.step (hl : RightMC m l) (h : WayR m l d) (hf : failS (fixD m l d) = false) {v : Nat} (hv : v < m.vars.length) (ho : openI (fixD m l d) = v) (h1 : 1 < ((fixD m l d).getD v []).length) (h2 : ∀ w : Nat, w < v → ((fixD m l d).getD w []).length ≤ 1) :
  WayR m l (d ++ [⟨v, 3, ((fixD m l d).getD v []).getD 0 0⟩]) := by
 have hm := zYA (v := (v : Int)) (n := ((fixD m l d).getD v []).getD 0 0) hl hf
 have hle : ∀ w : Nat, ((fixD m l (d ++ [⟨v, 3, ((fixD m l d).getD v []).getD 0 0⟩])).getD w []).length ≤ ((fixD m l d).getD w []).length := fun w => ((hm.trans zKb).2 w).length_le
 have hvv : ((fixD m l (d ++ [⟨v, 3, ((fixD m l d).getD v []).getD 0 0⟩])).getD v []).length ≤ 1 := by
  have h3 := (hm.2 v).length_le
  rw [keep1, zp] at h3
  have h4 : (((fixD m l d).getD v []).filter fun k => !decide ((v : Int) = (v : Int)) || decide (k = ((fixD m l d).getD v []).getD 0 0)).length ≤ 1 := by
   rw [show (fun k : Int => !decide ((v : Int) = (v : Int)) || decide (k = ((fixD m l d).getD v []).getD 0 0)) = fun k => decide (k = ((fixD m l d).getD v []).getD 0 0) by funext k; simp]
   exact zqk (((zIc hl).2 v).nodup (zEp v)) _
  omega
 have hd : d.length ≤ v := h.few v h1
 refine ⟨fun x hx => ?_, fun x hx w hw => ?_, fun w hw => ?_, ?_⟩
 ·rcases List.mem_append.1 hx with hx | hx
  ·exact h.ok x hx
  ·rw [List.mem_singleton.1 hx]
   exact ⟨rfl, by show (0 : Int) ≤ v; omega, by show (v : Int) < _; omega, ((zIc hl).2 v).subset (zrk (by omega))⟩
 ·rcases List.mem_append.1 hx with hx | hx
  ·exact Nat.le_trans (hle w) (h.thin x hx w hw)
  ·rw [List.mem_singleton.1 hx] at hw
   have hw : (w : Int) ≤ v := hw
   by_cases e : w = v
   ·rw [e]; exact hvv
   ·exact Nat.le_trans (hle w) (h2 w (by omega))
 ·rw [List.length_append, List.length_singleton]
  have h5 : v < w := by
   rcases Nat.lt_or_ge v w with h5 | h5
   ·exact h5
   ·rcases Nat.lt_or_eq_of_le h5 with h6 | h6
    ·have := h2 w h6; have := hle w; omega
    ·rw [h6] at hw; omega
  omega
 ·rw [List.length_append, List.length_singleton]; omega
inductive DownE (m : MdlD) (l : List (List LitD)) : List LitD × Bool × List Int → Prop
 | found (d : List LitD) (hc : WayR m l d) (hf : failS (fixD m l d) = false) (h1 : ∀ v : Nat, ((fixD m l d).getD v []).length ≤ 1) : DownE m l ([], true, valsS (fixD m l d))
 | none (hf : failS (fixD m l []) = true) : DownE m l ([], false, [])
 | some (d : List LitD) (v : Nat) (hc : WayR m l d) (hf : failS (fixD m l d) = false) (hv : v < m.vars.length) (h1 : 1 < ((fixD m l d).getD v []).length) (h2 : ∀ w : Nat, w < v → ((fixD m l d).getD w []).length ≤ 1)
   (hc' : WayR m l (d ++ [⟨v, 3, ((fixD m l d).getD v []).getD 0 0⟩])) (hf' : failS (fixD m l (d ++ [⟨v, 3, ((fixD m l d).getD v []).getD 0 0⟩])) = true) : DownE m l (d ++ [⟨v, 3, ((fixD m l d).getD v []).getD 0 0⟩], false, [])
theorem zFp (hl : RightMC m l) : ∀ (k : Nat) (d : List LitD), WayR m l d → m.vars.length + 1 ≤ k + d.length → (failS (fixD m l d) = true → DownE m l (d, false, [])) → DownE m l (downF m l k (fixD m l d) d)
 | 0, d, hc, hk, _ => absurd hc.len (by omega)
 | k + 1, d, hc, hk, hfail => by
  rw [downF]
  cases hf : failS (fixD m l d)
  ·rw [if_neg (by decide)]
   rcases zpk (fixD m l d) with ⟨e, h1⟩ | ⟨v, e, hv, h1, h2⟩
   ·rw [if_pos (by omega)]; exact .found d hc hf h1
   ·rw [if_neg (by omega), e, Int.toNat_natCast, zwi hl hf]
    have hv : v < m.vars.length := by rw [zCd hl] at hv; exact hv
    have hc' := hc.step hl hf hv e h1 h2
    exact zFp hl k _ hc' (by rw [List.length_append, List.length_singleton]; omega) fun hf' => .some d v hc hf hv h1 h2 hc' hf'
  ·rw [if_pos rfl]; exact hfail hf
theorem zGp (hl : RightMC m l) : DownE m l (downS m l) := zFp hl _ [] .nil (by simp) fun hf => .none hf
end
end Go.Proofs.YtajnbkhgnppckaaGreatDoor
/- Searches, in plain words: choices that are still open get fewer with each clause that is learned. -/
namespace Go.Proofs.YtajnbkhgnppckaaGreatDoor
open Go.RowKit
set_option linter.unusedVariables false
set_option linter.unusedSimpArgs false
def prods : List (List Int) → List (List Int)
 | [] => [[]]
 | r :: rs => r.flatMap fun n => (prods rs).map (n :: ·)
def numS : List (List Int) → Nat
 | [] => 1
 | r :: rs => r.length * numS rs
theorem zHp : ∀ s : List (List Int), (prods s).length = numS s
 | [] => rfl
 | r :: rs => by
  rw [prods, numS, List.length_flatMap]
  have h : (r.map fun n => ((prods rs).map (n :: ·)).length) = r.map fun _ => numS rs := List.map_congr_left fun n _ => by rw [List.length_map, zHp rs]
  rw [h]
  clear h
  induction r with
  | nil => simp
  | cons x r ih => rw [List.map_cons, List.sum_cons, ih, List.length_cons, Nat.succ_mul]; omega
theorem zJc : ∀ {s : List (List Int)} {vs : List Int}, vs ∈ prods s ↔ InS vs s
 | [], vs => by
  rw [prods, List.mem_singleton]
  refine ⟨fun h => by subst h; exact ⟨rfl, fun v hv => absurd hv (Nat.not_lt_zero v)⟩, fun h => List.length_eq_zero_iff.1 h.1⟩
 | r :: rs, vs => by
  rw [prods, List.mem_flatMap]
  constructor
  ·rintro ⟨n, hn, h⟩
   obtain ⟨us, hu, rfl⟩ := List.mem_map.1 h
   have := zJc.1 hu
   refine ⟨by simp [this.1], fun v hv => ?_⟩
   match v with
   | 0 => exact hn
   | v + 1 => exact this.2 v (by simpa using hv)
  ·rintro ⟨h1, h2⟩
   match vs, h1 with
   | n :: us, h1 =>
    refine ⟨n, h2 0 (by simp), List.mem_map.2 ⟨us, zJc.2 ⟨by simpa using h1, fun v hv => ?_⟩, rfl⟩⟩
    exact h2 (v + 1) (by simpa using hv)
theorem zsk : ∀ (a b : List (List Int)), numS (a ++ b) = numS a * numS b
 | [], b => by rw [List.nil_append, numS, Nat.one_mul]
 | r :: a, b => by rw [List.cons_append, numS, numS, zsk a b, Nat.mul_assoc]
def nodesOf (s : List (List Int)) : Nat → List (List Int)
 | 0 => []
 | k + 1 => nodesOf s k ++ if 1 < (s.getD k []).length then prods (s.take (k + 1)) else []
theorem zIp {s : List (List Int)} (h : ∀ r ∈ s, 0 < r.length) : ∀ k, k ≤ s.length → (nodesOf s k).length + 2 ≤ 2 * numS (s.take k)
 | 0, _ => by simp [nodesOf, numS]
 | k + 1, hk => by
  have ih := zIp h k (by omega)
  have hg : s.getD k [] = s[k] := getD_at _ (by omega)
  have e : numS (s.take (k + 1)) = numS (s.take k) * s[k].length := by
   rw [← List.take_append_getElem (show k < s.length by omega), zsk]
   simp [numS]
  have hp := h s[k] (List.getElem_mem _)
  rw [nodesOf, List.length_append, hg]
  split
  ·rename_i h1
   rw [zHp, e]
   have h2 : numS (s.take k) * 2 ≤ numS (s.take k) * s[k].length := Nat.mul_le_mul_left _ h1
   omega
  ·rename_i h1
   have h2 : s[k].length = 1 := by omega
   rw [e, h2, List.length_nil]
   omega
theorem zJp {s : List (List Int)} {P : List Int} {v : Nat} (h1 : 1 < (s.getD v []).length) (hP : P ∈ prods (s.take (v + 1))) : ∀ k, v < k → P ∈ nodesOf s k
 | 0, h => absurd h (Nat.not_lt_zero v)
 | k + 1, h => by
  rw [nodesOf, List.mem_append]
  by_cases e : v = k
  ·subst e; rw [if_pos h1]; exact .inr hP
  ·exact .inl (zJp h1 hP k (by omega))
structure Alive (m : MdlD) (l : List (List LitD)) (P : List Int) : Prop where
 ex : ∃ s, leS s (fullS m) ∧ failS s = false ∧ Stab (opsOf m true l) s ∧ (∀ w : Nat, w + 1 < P.length → s.getD w [] = [P.getD w 0]) ∧ P.getD (P.length - 1) 0 ∈ s.getD (P.length - 1) []
theorem Alive.ent {m : MdlD} {l l' : List (List LitD)} {P : List Int} (hl : RightMC m l) (hl' : RightMC m l') (he : Entl l' l) (h : Alive m l' P) : Alive m l P := by
 obtain ⟨s, h1, h2, h3, h4, h5⟩ := h.ex
 exact ⟨s, h1, h2, zBp hl hl' he (h1.1.trans zd) h2 h3, h4, h5⟩
open Classical in
noncomputable def aliveB (m : MdlD) (l : List (List LitD)) (P : List Int) : Bool := decide (Alive m l P)
open Classical in
theorem ztk {m : MdlD} {l : List (List LitD)} {P : List Int} : aliveB m l P = true ↔ Alive m l P := by rw [aliveB]; exact decide_eq_true_iff
open Classical in
theorem zZA {m : MdlD} {l : List (List LitD)} {P : List Int} : aliveB m l P = false ↔ ¬Alive m l P := by rw [aliveB]; exact decide_eq_false_iff_not
noncomputable def aliveN (m : MdlD) (l : List (List LitD)) : Nat := ((nodesOf (fullS m) m.vars.length).filter (aliveB m l)).length
theorem zKp {α : Type} {p q : α → Bool} : ∀ {L : List α}, (∀ x ∈ L, p x = true → q x = true) → (L.filter p).length ≤ (L.filter q).length ∧ ((∃ x ∈ L, q x = true ∧ p x = false) → (L.filter p).length < (L.filter q).length)
 | [], _ => ⟨Nat.le_refl _, fun ⟨x, hx, _⟩ => by cases hx⟩
 | y :: L, h => by
  obtain ⟨h1, h2⟩ := zKp (L := L) fun x hx => h x (List.mem_cons_of_mem _ hx)
  have hy := h y (List.mem_cons_self ..)
  rw [List.filter_cons, List.filter_cons]
  cases hp : p y <;> cases hq : q y
  ·simp only [Bool.false_eq_true, if_false]
   refine ⟨h1, fun ⟨x, hx, ha, hb⟩ => h2 ?_⟩
   rcases List.mem_cons.1 hx with rfl | hx
   ·rw [hq] at ha; cases ha
   ·exact ⟨x, hx, ha, hb⟩
  ·simp only [Bool.false_eq_true, if_false, if_true, List.length_cons]
   exact ⟨by omega, fun _ => by omega⟩
  ·rw [hy hp] at hq; cases hq
  ·simp only [if_true, List.length_cons]
   refine ⟨by omega, fun ⟨x, hx, ha, hb⟩ => ?_⟩
   rcases List.mem_cons.1 hx with rfl | hx
   ·rw [hp] at hb; cases hb
   ·have := h2 ⟨x, hx, ha, hb⟩; omega
section
variable {m : MdlD} {l l' : List (List LitD)} {d : List LitD}
theorem z0A (hl : RightMC m l) (hl' : RightMC m l') (he : Entl l' l) {P : List Int} (hP : P ∈ nodesOf (fullS m) m.vars.length) (h1 : Alive m l P) (h2 : ¬Alive m l' P) : aliveN m l' < aliveN m l := by
 unfold aliveN
 exact (zKp fun P _ h => ztk.2 ((ztk.1 h).ent hl hl' he)).2 ⟨P, hP, ztk.2 h1, zZA.2 h2⟩
theorem zLp (hr : Right m) : ∀ r ∈ fullS m, 0 < r.length := fun r h => by
 obtain ⟨v, hv, rfl⟩ := List.mem_map.1 h
 have := hr.var v hv
 rw [fullV, zbc]; omega
theorem z1A (hr : Right m) : aliveN m l + 2 ≤ 2 * numS (fullS m) := by
 have h1 := zIp (zLp hr) m.vars.length (by rw [zd]; exact Nat.le_refl _)
 rw [List.take_of_length_le (by rw [zd]; exact Nat.le_refl _)] at h1
 unfold aliveN
 have := List.length_filter_le (aliveB m l) (nodesOf (fullS m) m.vars.length)
 omega
theorem vals_at {s : List (List Int)} {w : Nat} : (valsS s).getD w 0 = (s.getD w []).getD 0 0 := by
 rw [valsS, List.getD_eq_getElem?_getD, List.getElem?_map, List.getD_eq_getElem?_getD (l := s)]
 cases s[w]? <;> rfl
theorem take_at {a : List Int} {k w : Nat} (h : w < k) : (a.take k).getD w 0 = a.getD w 0 := by
 rw [List.getD_eq_getElem?_getD, List.getElem?_take_of_lt h, ← List.getD_eq_getElem?_getD]
theorem one_of {a : List Int} (h1 : a.length ≤ 1) (h2 : a ≠ []) : a = [a.getD 0 0] := by
 match a, h1, h2 with
 | [x], _, _ => rfl
 | x :: y :: a, h1, _ => simp at h1
theorem z2A (hl : RightMC m l) {v : Nat} (hf : failS (fixD m l d) = false) (hv : v < m.vars.length) (h1 : 1 < ((fixD m l d).getD v []).length) (h2 : ∀ w : Nat, w < v → ((fixD m l d).getD w []).length ≤ 1) :
  (valsS (fixD m l d)).take (v + 1) ∈ nodesOf (fullS m) m.vars.length ∧ Alive m l ((valsS (fixD m l d)).take (v + 1)) := by
 have hlen : (fixD m l d).length = m.vars.length := zCd hl
 have hvl : (valsS (fixD m l d)).length = m.vars.length := by rw [valsS, List.length_map, hlen]
 have hne := zy.1 hf
 have hmem : ∀ w : Nat, w < m.vars.length → (valsS (fixD m l d)).getD w 0 ∈ (fixD m l d).getD w [] := fun w hw => by
  rw [vals_at]; exact zrk (List.length_pos_iff.2 (hne w (by omega)))
 have htl : ((valsS (fixD m l d)).take (v + 1)).length = v + 1 := by rw [List.length_take, hvl]; omega
 refine ⟨zJp (v := v) ?_ (zJc.2 ⟨?_, fun w hw => ?_⟩) _ hv, ⟨_, zIc hl, hf, zHc hl put_len hf, fun w hw => ?_, ?_⟩⟩
 ·have := ((zIc (d := d) hl).2 v).length_le; omega
 ·rw [htl, List.length_take, zd]; omega
 ·rw [List.length_take, zd] at hw
  rw [take_at (by omega)]
  have hx := ((zIc (d := d) hl).2 w).subset (hmem w (by omega))
  rw [List.getD_eq_getElem?_getD, List.getElem?_take_of_lt (by omega), ← List.getD_eq_getElem?_getD]
  exact hx
 ·rw [htl] at hw
  rw [take_at (by omega), vals_at]
  exact one_of (h2 w (by omega)) (hne w (by omega))
 ·rw [htl, Nat.add_sub_cancel, take_at (by omega)]; exact hmem v hv
theorem z3A (hl : RightMC m l) {v : Nat} (hc : WayR m l d) (hf : failS (fixD m l d) = false) (hv : v < m.vars.length) (h1 : 1 < ((fixD m l d).getD v []).length) (h2 : ∀ w : Nat, w < v → ((fixD m l d).getD w []).length ≤ 1)
  {few : List LitD} (hfew : ∀ x ∈ few, x ∈ d ++ [⟨v, 3, ((fixD m l d).getD v []).getD 0 0⟩]) (hl' : RightMC m l') (hm : few.map oppL ∈ l') : ¬Alive m l' ((valsS (fixD m l d)).take (v + 1)) := fun h => by
 obtain ⟨s, s1, s2, s3, s4, s5⟩ := h.ex
 have hlen : (fixD m l d).length = m.vars.length := zCd hl
 have hvl : (valsS (fixD m l d)).length = m.vars.length := by rw [valsS, List.length_map, hlen]
 have hne := zy.1 hf
 have htl : ((valsS (fixD m l d)).take (v + 1)).length = v + 1 := by rw [List.length_take, hvl]; omega
 have hs : s.length = m.vars.length := s1.1.trans zd
 rw [htl, Nat.add_sub_cancel, take_at (by omega), vals_at] at s5
 have hst := s3 _ (mem_ops.2 (.inr ⟨_, hm, rfl⟩))
 obtain ⟨us, u1, u2, u3⟩ := (zGc hl' hm).congr (Q' := holdsC (few.map oppL)) hs (vs := []) hst s2 v _ s5
 obtain ⟨z, hz, hzz⟩ := zLb.1 u3
 obtain ⟨y, hy, rfl⟩ := List.mem_map.1 hz
 rw [opp_var] at hzz
 have key : ∀ y : LitD, y.op = 3 → us.getD y.var.toNat 0 = y.n → holdsL (oppL y) (us.getD y.var.toNat 0) = true → False := fun y ho hn hh => by
  rw [zon (by omega), holdsL, if_neg (by omega), if_neg (by omega), if_pos ho, hn, decide_eq_true rfl] at hh
  cases hh
 rcases List.mem_append.1 (hfew y hy) with hd | hd
 ·obtain ⟨o1, o2, o3, o4⟩ := hc.ok y hd
  have hlt : y.var.toNat < v := by
   rcases Nat.lt_or_ge y.var.toNat v with hlt | hge
   ·exact hlt
   ·have := hc.thin y hd v (by omega); omega
  have h4 := s4 y.var.toNat (by rw [htl]; omega)
  rw [take_at (by omega), vals_at] at h4
  have hu := u1.2 y.var.toNat (by omega)
  rw [h4] at hu
  refine key y o1 ?_ hzz
  rw [List.mem_singleton.1 hu]
  have hmem := zrk (List.length_pos_iff.2 (hne y.var.toNat (by omega)))
  have hput := ((fixD_le (d := d) hl).2 y.var.toNat).subset hmem
  rw [zUe, zp] at hput
  have := List.all_eq_true.1 (List.mem_filter.1 hput).2 y hd
  have e : ((y.var.toNat : Nat) : Int) = y.var := Int.toNat_of_nonneg o2
  rw [e, decide_eq_true rfl, Bool.not_true, Bool.false_or, holdsL, if_neg (by omega), if_neg (by omega), if_pos o1] at this
  exact of_decide_eq_true this
 ·rw [List.mem_singleton.1 hd] at hzz
  refine key _ rfl ?_ hzz
  exact u2
end
end Go.Proofs.YtajnbkhgnppckaaGreatDoor
/- Lists of all values of which all holds, in plain words. -/
namespace Go.Proofs.YtajnbkhgnppckaaGreatDoor
open Go.RowKit
set_option linter.unusedVariables false
set_option linter.unusedSimpArgs false
def solsS (m : MdlD) (s : List (List Int)) : List (List Int) := (prods s).filter (wholeM m)
def inB : List Int → List (List Int) → Bool
 | [], [] => true
 | x :: xs, r :: rs => hasI r x && inB xs rs
 | _, _ => false
theorem inB_iff : ∀ {vs : List Int} {s : List (List Int)}, inB vs s = true ↔ InS vs s
 | [], [] => ⟨fun _ => ⟨rfl, fun v hv => absurd hv (Nat.not_lt_zero v)⟩, fun _ => rfl⟩
 | [], r :: rs => ⟨fun h => (by cases h), fun h => (by cases h.1)⟩
 | x :: xs, [] => ⟨fun h => (by cases h), fun h => (by cases h.1)⟩
 | x :: xs, r :: rs => by
  rw [inB, Bool.and_eq_true, zn, inB_iff]
  constructor
  ·rintro ⟨h1, h2, h3⟩
   refine ⟨by simp [h2], fun v hv => ?_⟩
   match v with
   | 0 => exact h1
   | v + 1 => exact h3 v (by simpa using hv)
  ·rintro ⟨h1, h2⟩
   exact ⟨h2 0 (by simp), by simpa using h1, fun v hv => h2 (v + 1) (by simpa using hv)⟩
theorem zuk : ∀ {a b : List Int}, a.Sublist b → b.Nodup → a = b.filter (hasI a)
 | _, _, .slnil, _ => rfl
 | a, y :: b, .cons _ h, hn => by
  have hn' := List.nodup_cons.1 hn
  have hy : hasI a y = false := by
   cases e : hasI a y
   ·rfl
   ·exact absurd (h.subset (zn.1 e)) hn'.1
  rw [List.filter_cons, hy]
  exact zuk h hn'.2
 | x :: a, _ :: b, .cons_cons _ h, hn => by
  have hn' := List.nodup_cons.1 hn
  have hx : hasI (x :: a) x = true := zn.2 (List.mem_cons_self ..)
  rw [List.filter_cons, hx, if_pos rfl]
  congr 1
  refine (zuk h hn'.2).trans (List.filter_congr fun y hy => ?_)
  have hne : y ≠ x := fun e => hn'.1 (e ▸ hy)
  have : hasI (x :: a) y = true ↔ hasI a y = true := by
   rw [zn, zn]
   exact ⟨fun h => (List.mem_cons.1 h).resolve_left hne, fun h => List.mem_cons_of_mem _ h⟩
  cases e : hasI a y
  ·cases e2 : hasI (x :: a) y
   ·rfl
   ·rw [this.1 e2] at e; cases e
  ·exact (this.2 e).symm
theorem zMp {α β : Type} (p : α → Bool) (f : α → List β) : ∀ l : List α, (l.filter p).flatMap f = l.flatMap fun x => if p x = true then f x else []
 | [] => rfl
 | x :: l => by
  rw [List.filter_cons, List.flatMap_cons, ← zMp p f l]
  cases p x
  ·rfl
  ·rw [if_pos rfl, if_pos rfl, List.flatMap_cons]
theorem zNp {α β : Type} (q : β → Bool) (f : α → List β) (l : List α) : (l.flatMap f).filter q = l.flatMap fun x => (f x).filter q := by
 induction l with
 | nil => rfl
 | cons x l ih => rw [List.flatMap_cons, List.filter_append, ih, List.flatMap_cons]
theorem zvk {α β : Type} {f g : α → List β} : ∀ {l : List α}, (∀ x ∈ l, f x = g x) → l.flatMap f = l.flatMap g
 | [], _ => rfl
 | x :: l, h => by rw [List.flatMap_cons, List.flatMap_cons, h x (List.mem_cons_self ..), zvk fun y hy => h y (List.mem_cons_of_mem _ hy)]
theorem zOp : ∀ {t s : List (List Int)}, t.length = s.length → (∀ v : Nat, (t.getD v []).Sublist (s.getD v [])) → (∀ v : Nat, (s.getD v []).Nodup) → prods t = (prods s).filter fun vs => inB vs t
 | [], [], _, _, _ => rfl
 | r :: t, q :: s, hl, hs, hn => by
  have ih := zOp (t := t) (s := s) (by simpa using hl) (fun v => hs (v + 1)) fun v => hn (v + 1)
  have hr : r = q.filter (hasI r) := zuk (hs 0) (hn 0)
  have e : prods (r :: t) = (q.filter (hasI r)).flatMap fun n => (prods t).map (n :: ·) := by rw [← hr]; rfl
  rw [e, zMp, prods, zNp]
  congr 1
  funext n
  rw [List.filter_map, ih]
  show _ = List.map (fun x => n :: x) ((prods s).filter fun vs => hasI r n && inB vs t)
  cases hasI r n
  ·simp
  ·simp
 | [], _ :: _, h, _, _ => by cases h
 | _ :: _, [], h, _, _ => by cases h
theorem z4A {m : MdlD} {t s : List (List Int)} (h : leS t s) (hn : ∀ v : Nat, (s.getD v []).Nodup) (hk : ∀ vs, InS vs s → wholeM m vs = true → InS vs t) : solsS m t = solsS m s := by
 rw [solsS, solsS, zOp h.1 h.2 hn, List.filter_filter]
 refine List.filter_congr fun vs hv => ?_
 have hv := zJc.1 hv
 cases e : wholeM m vs
 ·rw [Bool.false_and]
 ·rw [Bool.true_and, inB_iff.2 (hk vs hv e)]
theorem zwk {m : MdlD} {s : List (List Int)} (h : leS s (fullS m)) (v : Nat) : (s.getD v []).Nodup := (h.2 v).nodup (zEp v)
theorem z5A {m : MdlD} (hl : RightMC m []) {s : List (List Int)} (h : leS s (fullS m)) : solsS m (runS m true [] s) = solsS m s :=
 z4A (run_le hl (h.1.trans zd)) (zwk h) fun vs hv hw => zJz (cons := true) hl (h.1.trans zd) hv (fun _ => zIz hw) fun c hc => by cases hc
theorem z6A {s : List (List Int)} (h : failS s = true) : prods s = [] := List.eq_nil_iff_forall_not_mem.2 fun vs hv => by
 have := (zJc.1 hv).fail
 rw [h] at this; cases this
theorem zPp : ∀ {s : List (List Int)}, (∀ v : Nat, v < s.length → (s.getD v []).length = 1) → prods s = [valsS s]
 | [], _ => rfl
 | r :: s, h => by
  have h0 : r.length = 1 := h 0 (by simp)
  have ih := zPp (s := s) fun v hv => h (v + 1) (by simpa using hv)
  match r, h0 with
  | [x], _ => rw [prods, ih]; rfl
theorem z7A {r : List Int} {s : List (List Int)} {n : Int} : keep1 (r :: s) 0 n = (r.filter fun k => decide (k = n)) :: s := by
 rw [keep1, keepS, List.mapIdx_cons]
 congr 1
 ·refine List.ext_getElem (by simp) fun i h1 h2 => ?_
  rw [List.getElem_mapIdx]
  exact List.filter_eq_self.2 fun k _ => by
   rw [decide_eq_false (show ¬((i + 1 : Nat) : Int) = 0 by omega)]; rfl
theorem z8A {r : List Int} {s : List (List Int)} {v : Nat} {n : Int} : keep1 (r :: s) ((v + 1 : Nat) : Int) n = r :: keep1 s (v : Int) n := by
 rw [keep1, keep1, keepS, keepS, List.mapIdx_cons]
 congr 1
 ·exact List.filter_eq_self.2 fun k _ => by
   rw [decide_eq_false (show ¬((0 : Nat) : Int) = ((v + 1 : Nat) : Int) by omega)]; rfl
 ·refine List.ext_getElem (by simp) fun i h1 h2 => ?_
  rw [List.getElem_mapIdx, List.getElem_mapIdx]
  refine List.filter_congr fun k _ => ?_
  have : decide (((i + 1 : Nat) : Int) = ((v + 1 : Nat) : Int)) = decide ((i : Int) = (v : Int)) := by
   by_cases e : i = v
   ·rw [decide_eq_true (by omega), decide_eq_true (by omega)]
   ·rw [decide_eq_false (by omega), decide_eq_false (by omega)]
  rw [this]
theorem z9A {r : List Int} (h : r.Nodup) {n : Int} (hn : n ∈ r) : (r.filter fun k => decide (k = n)) = [n] := by
 have h1 := zqk h n
 have h2 : n ∈ r.filter fun k => decide (k = n) := List.mem_filter.2 ⟨hn, decide_eq_true rfl⟩
 match e : r.filter fun k => decide (k = n), h1, h2 with
 | [x], _, h2 => rw [List.mem_singleton.1 h2]
 | x :: y :: l, h1, _ => simp at h1
theorem zQp : ∀ {s : List (List Int)} {v : Nat}, v < s.length → (s.getD v []).Nodup → (∀ w : Nat, w < v → (s.getD w []).length = 1) → prods s = (s.getD v []).flatMap fun n => prods (keep1 s v n)
 | r :: s, 0, _, hn, _ => by
  show (r.flatMap fun n => (prods s).map (n :: ·)) = r.flatMap fun n => prods (keep1 (r :: s) 0 n)
  refine zvk fun n hm => ?_
  have hf := z9A (r := r) hn hm
  rw [z7A, hf, prods]
  simp
 | r :: s, v + 1, hv, hn, h1 => by
  have h0 : r.length = 1 := h1 0 (by omega)
  have ih := zQp (s := s) (v := v) (by simpa using hv) hn fun w hw => h1 (w + 1) (by omega)
  match r, h0 with
  | [x], _ =>
   show ([x].flatMap fun n => (prods s).map (n :: ·)) = (s.getD v []).flatMap fun n => prods (keep1 ([x] :: s) ((v + 1 : Nat) : Int) n)
   rw [ih, List.flatMap_cons, List.flatMap_nil, List.append_nil, List.map_flatMap]
   refine zvk fun n _ => ?_
   rw [z8A, prods]
   simp
theorem zaB {m : MdlD} {s : List (List Int)} {v : Nat} (hv : v < s.length) (hn : (s.getD v []).Nodup) (h1 : ∀ w : Nat, w < v → (s.getD w []).length = 1) : solsS m s = (s.getD v []).flatMap fun n => solsS m (keep1 s v n) := by
 rw [solsS, zQp hv hn h1, zNp]; rfl
theorem zRp {α : Type} {a b : List α} {n : Nat} (h : n ≤ a.length) : (a ++ b).take n = a.take n := by
 rw [List.take_append, show n - a.length = 0 by omega, List.take_zero, List.append_nil]
end Go.Proofs.YtajnbkhgnppckaaGreatDoor
/- Searches, in plain words: keys of clauses, steps that are noted, and a search's rounds. -/
namespace Go.Proofs.YtajnbkhgnppckaaGreatDoor
open Go.RowKit
set_option linter.unusedVariables false
set_option linter.unusedSimpArgs false
theorem dec_mem : ∀ (u : Nat), ∀ b ∈ Lib.decDigits u, 48 ≤ b.toNat ∧ b.toNat ≤ 57 := fun u => by
 induction u using Nat.strongRecOn with
 | _ u ih =>
  intro b hb
  have one : ∀ k, k < 10 → 48 ≤ (UInt8.ofNat (48 + k)).toNat ∧ (UInt8.ofNat (48 + k)).toNat ≤ 57 := fun k hk => by
   rw [UInt8.toNat_ofNat']; omega
  rw [Lib.decDigits] at hb
  split at hb
  ·rename_i h
   rw [List.mem_singleton.1 hb]; exact one u h
  ·rename_i h
   rcases List.mem_append.1 hb with hb | hb
   ·exact ih _ (by omega) b hb
   ·rw [List.mem_singleton.1 hb]; exact one _ (by omega)
def valD (l : List UInt8) : Nat := l.foldl (fun a b => 10 * a + (b.toNat - 48)) 0
theorem dec_val (u : Nat) : valD (Lib.decDigits u) = u := by
 induction u using Nat.strongRecOn with
 | _ u ih =>
  have one : ∀ k, k < 10 → (UInt8.ofNat (48 + k)).toNat - 48 = k := fun k hk => by
   rw [UInt8.toNat_ofNat']; omega
  rw [Lib.decDigits]
  split
  ·rename_i h
   show 10 * 0 + _ = _
   rw [one u h]; omega
  ·rename_i h
   rw [valD, List.foldl_append]
   show 10 * valD (Lib.decDigits (u / 10)) + _ = _
   rw [ih _ (by omega), one _ (by omega)]; omega
theorem zDd (n : Int) : ∀ b ∈ Lib.itoa n, b ≠ 58 ∧ b ≠ 32 := fun b hb => by
 have key : ∀ u, b ∈ Lib.decDigits u → b ≠ 58 ∧ b ≠ 32 := fun u h => by
  have := dec_mem u b h
  refine ⟨fun e => ?_, fun e => ?_⟩ <;> rw [e] at this <;> simp at this
 rw [Lib.itoa] at hb
 split at hb
 ·rcases List.mem_cons.1 hb with rfl | hb
  ·decide
  ·exact key _ hb
 ·exact key _ hb
theorem zxk {a b : Int} (h : Lib.itoa a = Lib.itoa b) : a = b := by
 have sgn : ∀ (u : Nat) (l : List UInt8), Lib.decDigits u ≠ 45 :: l := fun u l e => by
  have := dec_mem u 45 (by rw [e]; exact List.mem_cons_self)
  simp at this
 unfold Lib.itoa at h
 split at h <;> split at h
 ·have := congrArg valD (List.cons.inj h).2
  rw [dec_val, dec_val] at this; omega
 ·exact absurd h.symm (sgn _ _)
 ·exact absurd h (sgn _ _)
 ·have := congrArg valD h
  rw [dec_val, dec_val] at this; omega
def itoaS (n : Int) : ByteArray := ⟨(Lib.itoa n).toArray⟩
def litK (x : LitD) : ByteArray := itoaS x.var ++ ⟨#[58]⟩ ++ itoaS x.op ++ ⟨#[58]⟩ ++ itoaS x.n ++ ⟨#[32]⟩
def keyC (c : List LitD) : ByteArray := c.foldl (fun o x => o ++ litK x) ⟨#[]⟩
def litL (x : LitD) : List UInt8 := Lib.itoa x.var ++ 58 :: (Lib.itoa x.op ++ 58 :: (Lib.itoa x.n ++ [32]))
theorem zbB (x : LitD) : (litK x).data.toList = litL x := by
 simp [litK, litL, itoaS, ByteArray.data_append]
theorem zSp (c : List LitD) : (keyC c).data.toList = c.flatMap litL := by
 suffices H : ∀ (c : List LitD) (o : ByteArray), (c.foldl (fun o x => o ++ litK x) o).data.toList = o.data.toList ++ c.flatMap litL by
  rw [keyC, H]; rfl
 intro c
 induction c with
 | nil => intro o; simp
 | cons x c ih =>
  intro o
  rw [List.foldl_cons, ih, ByteArray.data_append, Array.toList_append, zbB, List.flatMap_cons, List.append_assoc]
theorem cut_at {s : UInt8} : ∀ {p q r t : List UInt8}, (∀ b ∈ p, b ≠ s) → (∀ b ∈ q, b ≠ s) → p ++ s :: r = q ++ s :: t → p = q ∧ r = t
 | [], [], r, t, _, _, h => ⟨rfl, (List.cons.inj h).2⟩
 | [], y :: q, r, t, _, hq, h => absurd (List.cons.inj h).1.symm (hq y (List.mem_cons_self ..))
 | x :: p, [], r, t, hp, _, h => absurd (List.cons.inj h).1 (hp x (List.mem_cons_self ..))
 | x :: p, y :: q, r, t, hp, hq, h => by
  obtain ⟨h1, h2⟩ := List.cons.inj h
  obtain ⟨h3, h4⟩ := cut_at (fun b hb => hp b (List.mem_cons_of_mem _ hb)) (fun b hb => hq b (List.mem_cons_of_mem _ hb)) h2
  exact ⟨by rw [h1, h3], h4⟩
theorem litL_ne (x : LitD) : litL x ≠ [] := by unfold litL; simp
theorem zTp : ∀ {c c' : List LitD}, c.flatMap litL = c'.flatMap litL → c = c'
 | [], [], _ => rfl
 | [], y :: c', h => by
  rw [List.flatMap_nil, List.flatMap_cons] at h
  exact absurd (List.append_eq_nil_iff.1 h.symm).1 (litL_ne y)
 | x :: c, [], h => by
  rw [List.flatMap_nil, List.flatMap_cons] at h
  exact absurd (List.append_eq_nil_iff.1 h).1 (litL_ne x)
 | x :: c, y :: c', h => by
  rw [List.flatMap_cons, List.flatMap_cons, litL, litL] at h
  simp only [List.append_assoc, List.cons_append, List.nil_append] at h
  obtain ⟨h1, h⟩ := cut_at (fun b hb => (zDd _ b hb).1) (fun b hb => (zDd _ b hb).1) h
  obtain ⟨h2, h⟩ := cut_at (fun b hb => (zDd _ b hb).1) (fun b hb => (zDd _ b hb).1) h
  obtain ⟨h3, h⟩ := cut_at (fun b hb => (zDd _ b hb).2) (fun b hb => (zDd _ b hb).2) h
  have e : x = y := by
   obtain ⟨a, b, c⟩ := x
   obtain ⟨a', b', c'⟩ := y
   have h1 := zxk h1; have h2 := zxk h2; have h3 := zxk h3
   simp only at h1 h2 h3
   rw [h1, h2, h3]
  rw [e, zTp h]
theorem zcB {c c' : List LitD} (h : keyC c = keyC c') : c = c' := zTp (by rw [← zSp, ← zSp, h])
theorem zUp (k k' : ByteArray) (v : Int) : ∀ es : List (ByteArray × Int), mget .str .int k (mput .str .int k' v es) = if k = k' then some v else mget .str .int k es
 | [] => by
  show (bif decide (k = k') then some v else none) = _
  by_cases h : k = k' <;> simp [h, mget]
 | (a, b) :: r => by
  have ih := zUp k k' v r
  show mget .str .int k (bif decide (k' = a) then (a, v) :: r else (a, b) :: mput .str .int k' v r) = if k = k' then some v else (bif decide (k = a) then some b else mget .str .int k r)
  by_cases h1 : k' = a
  ·rw [decide_eq_true h1, cond_true]
   show (bif decide (k = a) then some v else mget .str .int k r) = _
   rw [← h1]
   by_cases h2 : k = k'
   ·rw [decide_eq_true h2, if_pos h2]; rfl
   ·rw [decide_eq_false h2, if_neg h2]; rfl
  ·rw [decide_eq_false h1, cond_false]
   show (bif decide (k = a) then some b else mget .str .int k (mput .str .int k' v r)) = _
   rw [ih]
   by_cases h2 : k = a
   ·have h4 : ¬k = k' := fun e => h1 (e.symm.trans h2)
    rw [decide_eq_true h2, if_neg h4, if_neg h4]
   ·rw [decide_eq_false h2]
    by_cases h3 : k = k'
    ·rw [if_pos h3, if_pos h3]; rfl
    ·rw [if_neg h3, if_neg h3]
abbrev MetS : Type := List (ByteArray × Int)
abbrev metK (c : List LitD) (met : MetS) : Int := mgetD .str .int (keyC c) met
theorem met_put (c c' : List LitD) (met : MetS) : metK c (mput .str .int (keyC c') 1 met) = if c = c' then 1 else metK c met := by
 show (mget .str .int (keyC c) (mput .str .int (keyC c') 1 met)).getD 0 = _
 rw [zUp]
 by_cases h : c = c'
 ·rw [if_pos h, if_pos (by rw [h])]; rfl
 ·rw [if_neg h, if_neg fun e => h (zcB e)]; rfl
abbrev NoteS : Type := List StepD × MetS
def note1 (p : NoteS) (st : StepD) : NoteS := if metK st.clause p.2 = 0 then (p.1 ++ [st], mput .str .int (keyC st.clause) 1 p.2) else p
def noteS (t : List StepD) (p : NoteS) : NoteS := t.foldl note1 p
def NotedR (p : NoteS) : Prop := ∀ c, metK c p.2 ≠ 0 ↔ c ∈ clausesS p.1
theorem NotedR.nil : NotedR ([], []) := fun c => ⟨fun h => absurd rfl h, fun h => by cases h⟩
theorem zVp {c : List LitD} {l : List StepD} : c ∈ clausesS l ↔ ∃ st ∈ l, st.clause = c := List.mem_map
theorem NotedR.note1 {p : NoteS} (h : NotedR p) (st : StepD) : NotedR (note1 p st) ∧ st.clause ∈ clausesS (Go.Proofs.YtajnbkhgnppckaaGreatDoor.note1 p st).1 := by
 unfold Go.Proofs.YtajnbkhgnppckaaGreatDoor.note1
 by_cases e : metK st.clause p.2 = 0
 ·rw [if_pos e]
  refine ⟨fun c => ?_, ?_⟩
  ·show metK c (mput .str .int (keyC st.clause) 1 p.2) ≠ 0 ↔ c ∈ clausesS (p.1 ++ [st])
   rw [met_put, zkc, List.mem_append]
   by_cases hc : c = st.clause
   ·rw [if_pos hc]
    exact ⟨fun _ => .inr (List.mem_singleton.2 hc), fun _ => by decide⟩
   ·rw [if_neg hc, h c]
    exact ⟨.inl, fun x => x.elim id fun x => absurd (List.mem_singleton.1 x) hc⟩
  ·rw [zkc]; exact List.mem_append_right _ (List.mem_singleton.2 rfl)
 ·rw [if_neg e]; exact ⟨h, (h _).1 e⟩
theorem NotedR.notes : ∀ {t : List StepD} {p : NoteS}, NotedR p → NotedR (noteS t p) ∧ (∀ st ∈ t, st.clause ∈ clausesS (noteS t p).1) ∧ ∃ e, (noteS t p).1 = p.1 ++ e ∧ e.Sublist t
 | [], p, h => ⟨h, fun st hs => (by cases hs), [], (List.append_nil _).symm, List.Sublist.slnil⟩
 | st :: t, p, h => by
  obtain ⟨h1, h2⟩ := h.note1 st
  obtain ⟨i1, i2, e, i3, i4⟩ := h1.notes (t := t)
  have e0 : noteS (st :: t) p = noteS t (Go.Proofs.YtajnbkhgnppckaaGreatDoor.note1 p st) := rfl
  rw [e0]
  refine ⟨i1, fun x hx => ?_, ?_⟩
  ·rcases List.mem_cons.1 hx with rfl | hx
   ·rw [i3, zkc]; exact List.mem_append_left _ h2
   ·exact i2 x hx
  ·unfold Go.Proofs.YtajnbkhgnppckaaGreatDoor.note1 at i3
   by_cases e1 : metK st.clause p.2 = 0
   ·rw [if_pos e1] at i3
    unfold Go.Proofs.YtajnbkhgnppckaaGreatDoor.note1
    rw [if_pos e1]
    exact ⟨st :: e, by rw [i3]; simp, i4.cons_cons st⟩
   ·rw [if_neg e1] at i3
    unfold Go.Proofs.YtajnbkhgnppckaaGreatDoor.note1
    rw [if_neg e1]
    exact ⟨e, i3, i4.cons st⟩
theorem zWp {m : MdlD} (hm : checkM m = 0) {given : List (List LitD)} (hg : ∀ c ∈ given, clauseE m.vars.length c = 0) : ∀ (t : List StepD) (p : NoteS) (A : List (List LitD)), NotedR p → rightS m given p.1 = true → (∀ st ∈ p.1, clauseE m.vars.length st.clause = 0) →
  (∀ c ∈ A, clauseE m.vars.length c = 0) → (∀ st ∈ t, clauseE m.vars.length st.clause = 0) → Entl (given ++ clausesS p.1) A → rightS m A t = true → rightS m given (noteS t p).1 = true
 | [], p, A, _, h, _, _, _, _, _ => h
 | st :: t, p, A, hp, h, hs, hA, ht, he, hr => by
  rw [rightS, Bool.and_eq_true] at hr
  have hst := ht st (List.mem_cons_self ..)
  have hall : ∀ c ∈ given ++ clausesS p.1, clauseE m.vars.length c = 0 := fun c hc => by
   rcases List.mem_append.1 hc with hc | hc
   ·exact hg c hc
   ·obtain ⟨x, hx, rfl⟩ := zVp.1 hc; exact hs x hx
  obtain ⟨h1, h2⟩ := hp.note1 st
  show rightS m given (noteS t (note1 p st)).1 = true
  have hA' : ∀ c ∈ A ++ [st.clause], clauseE m.vars.length c = 0 := fun c hc => by
   rcases List.mem_append.1 hc with hc | hc
   ·exact hA c hc
   ·rw [List.mem_singleton.1 hc]; exact hst
  have hb := zXA (zvd hm hA) (zvd hm hall) he hr.1
  refine zWp hm hg t _ (A ++ [st.clause]) h1 ?_ ?_ hA' (fun x hx => ht x (List.mem_cons_of_mem _ hx)) ?_ hr.2
  ·unfold note1
   by_cases e : metK st.clause p.2 = 0
   ·rw [if_pos e, zlk, h, Bool.true_and]
    show (stepB m _ st && true) = true
    rw [hb]; rfl
   ·rw [if_neg e]; exact h
  ·unfold note1
   by_cases e : metK st.clause p.2 = 0
   ·rw [if_pos e]
    intro x hx
    rcases List.mem_append.1 hx with hx | hx
    ·exact hs x hx
    ·rw [List.mem_singleton.1 hx]; exact hst
   ·rw [if_neg e]; exact hs
  ·have hsub : ∀ c ∈ clausesS p.1, c ∈ clausesS (note1 p st).1 := fun c hc => by
    unfold note1
    by_cases e : metK st.clause p.2 = 0
    ·rw [if_pos e, zkc]; exact List.mem_append_left _ hc
    ·rw [if_neg e]; exact hc
   intro c hc
   rcases List.mem_append.1 hc with hc | hc
   ·obtain ⟨c', hc', hh⟩ := he c hc
    refine ⟨c', ?_, hh⟩
    rcases List.mem_append.1 hc' with hc' | hc'
    ·exact List.mem_append_left _ hc'
    ·exact List.mem_append_right _ (hsub c' hc')
   ·rw [List.mem_singleton.1 hc]
    exact ⟨_, List.mem_append_right _ h2, fun _ h => h⟩
theorem zdB {t1 t2 : List StepD} {p : NoteS} (hp : NotedR p) (h0 : ∀ st ∈ p.1, st.clause ≠ []) (h1 : ∀ st ∈ t1, st.clause ≠ []) (h2 : t2 ≠ []) (h3 : ∀ st ∈ t2, st.clause = []) : lastEmpty (noteS (t1 ++ t2) p).1 = true := by
 have e0 : noteS (t1 ++ t2) p = noteS t2 (noteS t1 p) := List.foldl_append ..
 rw [e0]
 obtain ⟨i1, _, e, i3, i4⟩ := hp.notes (t := t1)
 generalize noteS t1 p = q at i1 i3
 have hq : ([] : List LitD) ∉ clausesS q.1 := fun hc => by
  obtain ⟨st, hs, e1⟩ := zVp.1 hc
  rw [i3] at hs
  rcases List.mem_append.1 hs with hs | hs
  ·exact h0 st hs e1
  ·exact h1 st (i4.subset hs) e1
 match t2, h2, h3 with
 | st :: t2, _, h3 =>
  have hst := h3 st (List.mem_cons_self ..)
  have hm : metK st.clause q.2 = 0 := by
   rcases Int.decEq (metK st.clause q.2) 0 with h | h
   ·exact absurd ((i1 _).1 h) (by rw [hst]; exact hq)
   ·exact h
  show lastEmpty (noteS t2 (note1 q st)).1 = true
  have hst2 : ∀ (t : List StepD) (r : NoteS), (∀ x ∈ t, x.clause = []) → metK [] r.2 ≠ 0 → noteS t r = r := fun t => by
   induction t with
   | nil => exact fun r _ _ => rfl
   | cons x t ih =>
    intro r hx hr
    show noteS t (note1 r x) = r
    have e : note1 r x = r := by
     unfold note1
     rw [if_neg (by rw [hx x (List.mem_cons_self ..)]; exact hr)]
    rw [e]; exact ih r (fun y hy => hx y (List.mem_cons_of_mem _ hy)) hr
  have hn := (i1.note1 st).1
  have hmem := (i1.note1 st).2
  rw [hst2 t2 _ (fun x hx => h3 x (List.mem_cons_of_mem _ hx)) ((hn []).2 (by rw [← hst]; exact hmem))]
  unfold note1
  rw [if_pos hm, lastEmpty]
  simp [hst]
def NE (m : MdlD) (p : TrS) : Prop := (∀ st ∈ p.1, st.clause ≠ []) ∨ (failS p.2 = true ∧ ∃ t1 e, p.1 = t1 ++ [e] ∧ (∀ st ∈ t1, st.clause ≠ []) ∧ e.clause = [])
section
variable {m : MdlD} {l : List (List LitD)} {d : List LitD}
theorem conT_NE {p : TrS} (h : Tr m l d p.1 p.2) (hk : LearnOk m l d) {i : Nat} (hi : i < m.cons.length) (hf : failS p.2 = false) (hn : NE m p) : NE m (conT m i p).1 := by
 have hn : ∀ st ∈ p.1, st.clause ≠ [] := by
  rcases hn with hn | ⟨hn, _⟩
  ·exact hn
  ·rw [hf] at hn; cases hn
 unfold conT
 by_cases hg : failS (filterS (conAt m i) p.2) = true
 ·rw [if_pos hg]
  by_cases he : emptyC m i p.2 = []
  ·exact .inr ⟨zec (by rw [h.len]; exact hk.mc.pos), p.1, _, rfl, hn, he⟩
  ·refine .inl fun st hs => ?_
   rcases List.mem_append.1 hs with hs | hs
   ·exact hn st hs
   ·rw [List.mem_singleton.1 hs]; exact he
 ·rw [if_neg hg]
  refine .inl fun st hs => ?_
  rcases List.mem_append.1 hs with hs | hs
  ·exact hn st hs
  ·obtain ⟨v, n, h1, h2, h3, rfl⟩ := zui.1 hs
   have hgone : goneB m i p.2 v n = true := by
    rw [goneB, hf, Int.toNat_natCast]
    have e1 : hasI (p.2.getD v []) n = true := zn.2 h2
    have e2 : hasI ((filterS (conAt m i) p.2).getD v []) n = false := by
     cases e : hasI ((filterS (conAt m i) p.2).getD v []) n
     ·rfl
     ·exact absurd (zn.1 e) h3
    rw [e1, e2]; rfl
   show goneC m i p.2 v n ≠ []
   rw [goneC, if_pos hgone, reasonC]
   simp
theorem zXp (hk : LearnOk m l d) : ∀ (k i : Nat) (p : TrS) (c : Bool), i + k = m.cons.length → Tr m l d p.1 p.2 → NE m p → NE m (consT m k i p c).1
 | 0, i, p, c, _, _, hn => hn
 | k + 1, i, p, c, hi, h, hn => by
  rw [consT]
  cases hf : failS p.2
  ·rw [if_neg (by decide)]
   exact zXp hk k (i + 1) _ _ (by omega) (zmk h hk (i := i) (by omega) hf).1 (conT_NE h hk (by omega) hf hn)
  ·rw [if_pos rfl]; exact hn
theorem zeB {p : TrS} (h : Tr m l d p.1 p.2) (hk : LearnOk m l d) (hn : NE m p) : NE m (roundT m l p).1 := by
 obtain ⟨i1, _, _, _⟩ := znk hk m.cons.length 0 p false (Nat.zero_add _) h
 have hc := zXp hk m.cons.length 0 p false (Nat.zero_add _) h hn
 rw [roundT]
 generalize consT m m.cons.length 0 p false = r at i1 hc ⊢
 rcases hc with hc | ⟨h1, h2⟩
 ·exact .inl hc
 ·exact .inr ⟨(i1.units hk).2.failed h1, h2⟩
theorem runT_NE (hk : LearnOk m l d) : ∀ (k : Nat) (p : TrS), Tr m l d p.1 p.2 → NE m p → NE m (runT m l k p)
 | 0, p, _, hn => hn
 | k + 1, p, h, hn => by
  rw [runT]
  cases hf : failS p.2
  ·rw [if_neg (by decide)]
   have h1 := (zok h hk hf).1
   have h2 := zeB h hk hn
   cases e : (roundT m l p).2
   ·rw [if_neg (by decide)]; exact h2
   ·rw [if_pos rfl]; exact runT_NE hk k _ h1 h2
  ·rw [if_pos rfl]; exact hn
theorem zYp (hk : LearnOk m l d) : ∃ t1 t2, traceS m l d = t1 ++ t2 ++ [lastS d] ∧ (∀ st ∈ t1, st.clause ≠ []) ∧ ∀ st ∈ t2, st.clause = [] ∧ StepR m st := by
 have hb := Tr.begin hk
 have h1 := (zvi hk 36 ([], putS m d) hb (by have := hb.size; simpa using this)).1
 rcases runT_NE hk 37 ([], putS m d) hb (.inl fun st hs => by cases hs) with h | ⟨_, t1, e, h2, h3, h4⟩
 ·exact ⟨_, [], by rw [List.append_nil]; rfl, h, fun st hs => by cases hs⟩
 ·refine ⟨t1, [e], by rw [traceS, h2], h3, fun st hs => ?_⟩
  rw [List.mem_singleton.1 hs]
  exact ⟨h4, h1.ok e (by rw [h2]; exact List.mem_append_right _ (List.mem_singleton.2 rfl))⟩
theorem zfB {s : List (List Int)} : denyC s [] = s := zdc fun v n _ => rfl
theorem zgB (hl : RightMC m l) {i : Int} (hi : 0 ≤ i ∧ i < (m.cons.length : Int)) (h : byCon m i [] = true) : failsB m l [] = true := by
 cases hf : failsB m l []
 ·have hf : failS (runS m true l (fullS m)) = false := hf
  have hlen : (fullS m).length = m.vars.length := zd
  have hc : conAt m i ∈ m.cons := by
   have hj : i.toNat < m.cons.length := by omega
   rw [conAt, getD_at _ hj]; exact List.getElem_mem hj
  have hst := zHc hl hlen hf _ (mem_ops.2 (.inl ⟨rfl, _, hc, rfl⟩))
  have hm := (zud hl hc).mono hlen (run_le (cons := true) hl hlen) (by rw [hst]; exact hf)
  rw [hst] at hm
  have := hm.fail hf
  rw [byCon, zfB] at h
  rw [h] at this; cases this
 ·rfl
theorem zhB (hl : RightMC m l) (h : failsB m l [] = true) : fewest m l d = [] := by
 have hmin := z9o (failsB m l) (zop hl) d
 show fewL (failsB m l) d = []
 generalize fewL (failsB m l) d = r at hmin
 match r, hmin with
 | [], _ => rfl
 | x :: r, hmin =>
  have := hmin 0 (by simp)
  rw [zop hl [] _ (fun y hy => by cases hy) h] at this
  cases this
theorem ziB (hk : LearnOk m l d) (hd : d ≠ []) (h : failsB m l [] = false) : ∀ st ∈ traceS m l d, st.clause ≠ [] := by
 obtain ⟨t1, t2, e, h1, h2⟩ := zYp hk
 rw [e]
 intro st hs
 rcases List.mem_append.1 hs with hs | hs
 ·rcases List.mem_append.1 hs with hs | hs
  ·exact h1 st hs
  ·obtain ⟨h3, h4⟩ := h2 st hs
   have := zgB hk.mc h4.con (by rw [← h3]; exact h4.by')
   rw [h] at this; cases this
 ·rw [List.mem_singleton.1 hs]
  show d.map oppL ≠ []
  exact fun e => hd (List.map_eq_nil_iff.1 e)
theorem zjB (hk : LearnOk m l []) : ∃ t1 t2, traceS m l [] = t1 ++ t2 ∧ (∀ st ∈ t1, st.clause ≠ []) ∧ t2 ≠ [] ∧ ∀ st ∈ t2, st.clause = [] := by
 obtain ⟨t1, t2, e, h1, h2⟩ := zYp hk
 refine ⟨t1, t2 ++ [lastS []], by rw [e, List.append_assoc], h1, by simp, fun st hs => ?_⟩
 rcases List.mem_append.1 hs with hs | hs
 ·exact (h2 st hs).1
 ·rw [List.mem_singleton.1 hs]; rfl
end
end Go.Proofs.YtajnbkhgnppckaaGreatDoor
/- Searches, in plain words: what a search answers, that it is right, and that it ends. -/
namespace Go.Proofs.YtajnbkhgnppckaaGreatDoor
open Go.RowKit
set_option linter.unusedVariables false
set_option linter.unusedSimpArgs false
structure GoR where
 vals : List Int
 verdict : Int
 fuel : Nat
 learned : List (List LitD)
 note : NoteS
noncomputable def fewD (m : MdlD) (l : List (List LitD)) : List LitD := fewest m l (downS m l).1
noncomputable def roundN (m : MdlD) (l : List (List LitD)) (p : NoteS) : NoteS := noteS (traceS m l (fewD m l)) p
noncomputable def goS (m : MdlD) : Nat → List (List LitD) → List (List LitD) → NoteS → GoR
 | 0, g, l, p => ⟨[], 3, 0, l, p⟩
 | k + 1, g, l, p => if (downS m (g ++ l)).2.1 = true then ⟨(downS m (g ++ l)).2.2, 1, k, l, p⟩
  else if fewD m (g ++ l) = [] then ⟨[], 2, k, l, roundN m (g ++ l) p⟩
  else if 600 < l.length + 1 ∨ 6000 < (roundN m (g ++ l) p).1.length then ⟨[], 3, k, l ++ [(fewD m (g ++ l)).map oppL], roundN m (g ++ l) p⟩
  else goS m k g (l ++ [(fewD m (g ++ l)).map oppL]) (roundN m (g ++ l) p)
structure Sea (m : MdlD) (g l : List (List LitD)) (p : NoteS) : Prop where
 chk : checkM m = 0
 gc : ∀ c ∈ g, clauseE m.vars.length c = 0
 lc : ∀ c ∈ l, clauseE m.vars.length c = 0
 glen : g.length ≤ 1
 met : NotedR p
 right : rightS m g p.1 = true
 cl : ∀ st ∈ p.1, clauseE m.vars.length st.clause = 0
 con : ∀ st ∈ p.1, st.kind = 1 → 0 ≤ st.con ∧ st.con < (m.cons.length : Int)
 ne : ∀ st ∈ p.1, st.clause ≠ []
 sub : ∀ c ∈ l, c ∈ clausesS p.1
section
variable {m : MdlD} {g l : List (List LitD)} {p : NoteS}
theorem Sea.all (h : Sea m g l p) : ∀ c ∈ g ++ l, clauseE m.vars.length c = 0 := fun c hc => by
 rcases List.mem_append.1 hc with hc | hc
 ·exact h.gc c hc
 ·exact h.lc c hc
theorem Sea.mc (h : Sea m g l p) : RightMC m (g ++ l) := zvd h.chk h.all
theorem Sea.begin (h : checkM m = 0) : Sea m [] [] ([], []) := ⟨h, fun c hc => (by cases hc), fun c hc => (by cases hc), Nat.zero_le _, .nil, rfl, fun c hc => (by cases hc), fun c hc => (by cases hc), fun c hc => (by cases hc), fun c hc => (by cases hc)⟩
structure ProofR (m : MdlD) (g : List (List LitD)) (t : List StepD) : Prop where
 right : proofB m g t = true
 cl : ∀ st ∈ t, clauseE m.vars.length st.clause = 0
 con : ∀ st ∈ t, st.kind = 1 → 0 ≤ st.con ∧ st.con < (m.cons.length : Int)
theorem zZp (h : Sea m g l p) (hl : l.length ≤ 599) {d : List LitD} (hc : WayR m (g ++ l) d) : LearnOk m (g ++ l) d := by
 have hr := h.mc.right
 have hv := hr.vars
 refine ⟨h.chk, by rw [List.length_append]; have := h.glen; omega, h.all, by have := hc.len; omega, fun x hx => ?_, fun x hx => ?_⟩
 ·obtain ⟨o1, o2, o3, o4⟩ := hc.ok x hx
  exact zni hr ⟨o2, o3⟩ (by omega) o4
 ·obtain ⟨o1, o2, o3, o4⟩ := hc.ok x hx
  refine zni hr (by rw [opp_var]; exact ⟨o2, o3⟩) ?_ ?_
  ·rw [oppL, if_neg (by omega), if_neg (by omega), if_pos o1]; exact ⟨by show (1 : Int) ≤ 4; decide, by show (4 : Int) ≤ 4; decide⟩
  ·rw [oppL, if_neg (by omega), if_neg (by omega), if_pos o1]; exact o4
theorem zyk (h : Sea m g l p) (hl : l.length ≤ 599) (hd : (downS m (g ++ l)).2.1 = false) :
  LearnOk m (g ++ l) (downS m (g ++ l)).1 ∧ failsB m (g ++ l) (downS m (g ++ l)).1 = true ∧ (roundN m (g ++ l) p).1.length ≤ p.1.length + sizeS (fullS m) + 1 ∧
  (fewD m (g ++ l) = [] → ProofR m g (roundN m (g ++ l) p).1) ∧
  (fewD m (g ++ l) ≠ [] → Sea m g (l ++ [(fewD m (g ++ l)).map oppL]) (roundN m (g ++ l) p) ∧ aliveN m (g ++ (l ++ [(fewD m (g ++ l)).map oppL])) < aliveN m (g ++ l)) := by
 have hmc := h.mc
 have hD := zGp hmc
 have base : LearnOk m (g ++ l) (downS m (g ++ l)).1 ∧ failsB m (g ++ l) (downS m (g ++ l)).1 = true := by
  generalize downS m (g ++ l) = D at hD hd
  cases hD with
  | found d hc hf h1 => cases hd
  | none hf => exact ⟨zZp h hl .nil, hf⟩
  | some d v hc hf hv h1 h2 hc' hf' => exact ⟨zZp h hl hc', hf'⟩
 obtain ⟨hk, hfail⟩ := base
 have hkf : LearnOk m (g ++ l) (fewD m (g ++ l)) := hk.sub zti
 have hff : failsB m (g ++ l) (fewD m (g ++ l)) = true := zpp hfail
 have ht := zxp hkf hff
 obtain ⟨n1, n2, e, n3, n4⟩ := h.met.notes (t := traceS m (g ++ l) (fewD m (g ++ l)))
 have hent : Entl (g ++ clausesS p.1) (g ++ l) := .sub fun c hc => by
  rcases List.mem_append.1 hc with hc | hc
  ·exact List.mem_append_left _ hc
  ·exact List.mem_append_right _ (h.sub c hc)
 have hright := zWp h.chk h.gc (traceS m (g ++ l) (fewD m (g ++ l))) p (g ++ l) h.met h.right h.cl h.all ht.cl hent ht.right
 have hmem : ∀ st ∈ (roundN m (g ++ l) p).1, st ∈ p.1 ∨ st ∈ traceS m (g ++ l) (fewD m (g ++ l)) := fun st hs => by
  have hs : st ∈ (noteS (traceS m (g ++ l) (fewD m (g ++ l))) p).1 := hs
  rw [n3] at hs
  rcases List.mem_append.1 hs with hs | hs
  ·exact .inl hs
  ·exact .inr (n4.subset hs)
 have hcl : ∀ st ∈ (roundN m (g ++ l) p).1, clauseE m.vars.length st.clause = 0 := fun st hs => (hmem st hs).elim (h.cl st) (ht.cl st)
 have hcon : ∀ st ∈ (roundN m (g ++ l) p).1, st.kind = 1 → 0 ≤ st.con ∧ st.con < (m.cons.length : Int) := fun st hs => (hmem st hs).elim (h.con st) (ht.con st)
 refine ⟨hk, hfail, ?_, fun hf => ?_, fun hf => ?_⟩
 ·have h1 := n4.length_le
  have h2 := ht.len2
  show (noteS _ p).1.length ≤ _
  rw [n3, List.length_append]; omega
 ·refine ⟨?_, hcl, hcon⟩
  rw [proofB, Bool.and_eq_true]
  refine ⟨hright, ?_⟩
  show lastEmpty (noteS (traceS m (g ++ l) (fewD m (g ++ l))) p).1 = true
  rw [hf] at hkf ⊢
  obtain ⟨t1, t2, e, h1, h2, h3⟩ := zjB hkf
  rw [e]
  exact zdB h.met h.ne h1 h2 h3
 ·have hnil : failsB m (g ++ l) [] = false := by
   cases e : failsB m (g ++ l) []
   ·rfl
   ·exact absurd (zhB hmc e) hf
  have hne := ziB hkf hf hnil
  have hnog : clauseE m.vars.length ((fewD m (g ++ l)).map oppL) = 0 := zqp hkf
  have hlast : (fewD m (g ++ l)).map oppL ∈ clausesS (roundN m (g ++ l) p).1 := by
   have := n2 (lastS (fewD m (g ++ l))) (by rw [traceS]; exact List.mem_append_right _ (List.mem_singleton.2 rfl))
   exact this
  have hS : Sea m g (l ++ [(fewD m (g ++ l)).map oppL]) (roundN m (g ++ l) p) := by
   refine ⟨h.chk, h.gc, fun c hc => ?_, h.glen, n1, hright, hcl, hcon, fun st hs => (hmem st hs).elim (h.ne st) (hne st), fun c hc => ?_⟩
   ·rcases List.mem_append.1 hc with hc | hc
    ·exact h.lc c hc
    ·rw [List.mem_singleton.1 hc]; exact hnog
   ·rcases List.mem_append.1 hc with hc | hc
    ·show c ∈ clausesS (noteS _ p).1
     rw [n3, zkc]; exact List.mem_append_left _ (h.sub c hc)
    ·rw [List.mem_singleton.1 hc]; exact hlast
  refine ⟨hS, ?_⟩
  have hsub : ∀ x ∈ fewD m (g ++ l), x ∈ (downS m (g ++ l)).1 := fun x hx => zti.subset hx
  have hne0 : (downS m (g ++ l)).1 ≠ [] := fun e => hf (by
   have : (fewD m (g ++ l)).Sublist (downS m (g ++ l)).1 := zti
   rw [e] at this; exact List.sublist_nil.1 this)
  have hin : (fewD m (g ++ l)).map oppL ∈ g ++ (l ++ [(fewD m (g ++ l)).map oppL]) := by simp
  have hE : Entl (g ++ (l ++ [(fewD m (g ++ l)).map oppL])) (g ++ l) := .sub fun c hc => by
   rw [← List.append_assoc]; exact List.mem_append_left _ hc
  generalize fewD m (g ++ l) = few at hS hsub hin hE hf ⊢
  generalize downS m (g ++ l) = D at hD hd hsub hne0
  cases hD with
  | found d hc hf h1 => cases hd
  | none hf => exact absurd rfl hne0
  | some d v hc hf hv h1 h2 hc' hf' =>
   obtain ⟨a1, a2⟩ := z2A hmc hf hv h1 h2
   exact z0A hmc hS.mc hE a1 a2 (z3A hmc hc hf hv h1 h2 hsub hS.mc hin)
theorem zkB (hmc : RightMC m l) (hd : (downS m l).2.1 = true) : (downS m l).2.2.length = m.vars.length ∧ InS (downS m l).2.2 (fullS m) ∧ (∀ c ∈ m.cons, trueC c (downS m l).2.2 = true) ∧ ∀ c ∈ l, holdsC c (downS m l).2.2 = true := by
 have hD := zGp hmc
 generalize downS m l = D at hD hd
 cases hD with
 | none hf => cases hd
 | some d v hc hf hv h1 h2 hc' hf' => cases hd
 | found d hc hf h1 =>
  have hlen : (fixD m l d).length = m.vars.length := zCd hmc
  have hvl : (valsS (fixD m l d)).length = m.vars.length := by rw [valsS, List.length_map, hlen]
  have hne := zy.1 hf
  have hrow : ∀ v : Nat, v < m.vars.length → (fixD m l d).getD v [] = [(valsS (fixD m l d)).getD v 0] := fun v hv => by
   rw [vals_at]; exact one_of (h1 v) (hne v (by omega))
  have hin : InS (valsS (fixD m l d)) (fixD m l d) := ⟨hvl.trans hlen.symm, fun v hv => by
   rw [hrow v (by omega)]; exact List.mem_singleton.2 rfl⟩
  have huniq : ∀ us, InS us (fixD m l d) → us = valsS (fixD m l d) := fun us hu => by
   refine zxe (d := 0) (hu.1.trans (hlen.trans hvl.symm)) fun v => ?_
   by_cases hv : v < m.vars.length
   ·have := hu.2 v (by omega)
    rw [hrow v hv] at this
    exact List.mem_singleton.1 this
   ·rw [zj (by rw [hu.1, hlen]; omega), zj (by omega)]
  have hst := zHc hmc put_len hf
  have hpos := hmc.pos
  have hq : ∀ {op : Op} {Q : List Int → Bool}, IsOp m.vars.length op Q → op (fixD m l d) = fixD m l d → Q (valsS (fixD m l d)) = true := fun ho hs => by
   obtain ⟨n, hn⟩ := List.exists_mem_of_ne_nil _ (hne 0 (by omega))
   obtain ⟨us, u1, _, u3⟩ := ho.congr (Q' := fun _ => true) hlen (vs := []) hs hf 0 n hn
   rw [huniq us u1] at u3; exact u3
  exact ⟨hvl, hin.mono (zIc hmc), fun c hc => hq (zud hmc hc) (hst _ (mem_ops.2 (.inl ⟨rfl, c, hc, rfl⟩))), fun c hc => hq (zGc hmc hc) (hst _ (mem_ops.2 (.inr ⟨c, hc, rfl⟩)))⟩
theorem z0p {vs : List Int} (hl : vs.length = m.vars.length) (h : InS vs (fullS m)) (hc : ∀ c ∈ m.cons, trueC c vs = true) : wholeM m vs = true := by
 have h1 : ((m.vars.zip vs).any fun x => !inR x.2 x.1.lo x.1.hi) = false := by
  rw [List.any_eq_false]
  intro x hx
  obtain ⟨i, hi, rfl⟩ := List.getElem_of_mem hx
  have hi1 : i < m.vars.length := by rw [List.length_zip] at hi; omega
  have hi2 : i < vs.length := by omega
  rw [List.getElem_zip]
  have := h.2 i (by rw [zd]; exact hi1)
  rw [zwd hi1, zbk, getD_at _ hi2] at this
  show ¬(!inR vs[i] m.vars[i].lo m.vars[i].hi) = true
  rw [inR, decide_eq_true this.1, decide_eq_true this.2]; decide
 have h2 : (m.cons.any fun c => !trueC c vs) = false := by
  rw [List.any_eq_false]
  exact fun c hm => by rw [hc c hm]; decide
 rw [wholeM, h1, h2]; rfl
structure FoundR (m : MdlD) (g : List (List LitD)) (vs : List Int) : Prop where
 len : vs.length = m.vars.length
 full : InS vs (fullS m)
 whole : wholeM m vs = true
 giv : ∀ c ∈ g, holdsC c vs = true
inductive GoX (m : MdlD) (g : List (List LitD)) (r : GoR) : Prop
 | found (h1 : r.verdict = 1) (h2 : FoundR m g r.vals) (h3 : Sea m g r.learned r.note) (h4 : r.learned.length + r.fuel ≤ 300) : GoX m g r
 | none (h1 : r.verdict = 2) (h2 : r.vals = []) (h3 : ProofR m g r.note.1) : GoX m g r
 | unknown (h1 : r.verdict = 3) (h2 : r.vals = []) : GoX m g r
theorem zzk : ∀ (k : Nat) (l : List (List LitD)) (p : NoteS), Sea m g l p → l.length + k ≤ 300 → GoX m g (goS m k g l p)
 | 0, l, p, _, _ => .unknown rfl rfl
 | k + 1, l, p, h, hk => by
  rw [goS]
  by_cases hd : (downS m (g ++ l)).2.1 = true
  ·rw [if_pos hd]
   obtain ⟨f1, f2, f3, f4⟩ := zkB h.mc hd
   exact .found rfl ⟨f1, f2, z0p f1 f2 f3, fun c hc => f4 c (List.mem_append_left _ hc)⟩ h (by show l.length + k ≤ 300; omega)
  ·rw [if_neg hd]
   obtain ⟨_, _, _, q4, q5⟩ := zyk h (by omega) (by simpa using hd)
   by_cases hf : fewD m (g ++ l) = []
   ·rw [if_pos hf]; exact .none rfl rfl (q4 hf)
   ·rw [if_neg hf]
    split
    ·exact .unknown rfl rfl
    ·exact zzk k _ _ (q5 hf).1 (by rw [List.length_append, List.length_singleton]; omega)
theorem z1p : ∀ {s : List (List Int)}, (∀ r ∈ s, 0 < r.length ∧ r.length ≤ 6) → ∃ F, 2 ^ F ≤ numS s ∧ sizeS s ≤ s.length + 3 * F
 | [], _ => ⟨0, Nat.le_refl _, Nat.le_refl _⟩
 | r :: s, h => by
  obtain ⟨F, h1, h2⟩ := z1p (s := s) fun x hx => h x (List.mem_cons_of_mem _ hx)
  obtain ⟨h3, h4⟩ := h r (List.mem_cons_self ..)
  have e : sizeS (r :: s) = r.length + sizeS s := by simp [sizeS]
  rw [e, numS, List.length_cons]
  rcases Nat.lt_or_ge r.length 2 with h5 | h5
  ·refine ⟨F, ?_, by omega⟩
   rw [show r.length = 1 by omega, Nat.one_mul]; exact h1
  ·rcases Nat.lt_or_ge r.length 4 with h6 | h6
   ·refine ⟨F + 1, ?_, by omega⟩
    have := Nat.mul_le_mul h5 h1
    rw [Nat.pow_succ]; omega
   ·refine ⟨F + 2, ?_, by omega⟩
    have := Nat.mul_le_mul h6 h1
    rw [Nat.pow_succ, Nat.pow_succ]; omega
theorem zlB (hr : Right m) (h : numS (fullS m) ≤ 100) : sizeS (fullS m) ≤ 24 := by
 have hv := hr.vars
 obtain ⟨F, h1, h2⟩ := z1p (s := fullS m) fun r hx => ⟨zLp hr r hx, by
  obtain ⟨i, hi, rfl⟩ := List.getElem_of_mem hx
  have := zyd hr i
  rwa [getD_at _ hi] at this⟩
 rw [zd] at h2
 have hF : F ≤ 6 := by
  rcases Nat.lt_or_ge 6 F with h3 | h3
  ·have := Nat.pow_le_pow_right (n := 2) (by decide) h3
   have e : 2 ^ (6 + 1) = 128 := by decide
   omega
  ·exact h3
 omega
theorem z2p (hp : numS (fullS m) ≤ 100) : ∀ (k e : Nat) (l : List (List LitD)) (p : NoteS), Sea m g l p → l.length + k ≤ 300 → aliveN m (g ++ l) + e + 1 ≤ k → p.1.length + (aliveN m (g ++ l) + 1) * 25 ≤ 6000 →
  (goS m k g l p).verdict ≠ 3 ∧ (goS m k g l p).note.1.length ≤ 6000 ∧ ((goS m k g l p).verdict = 1 → aliveN m (g ++ (goS m k g l p).learned) + e ≤ (goS m k g l p).fuel ∧ (goS m k g l p).note.1.length + (aliveN m (g ++ (goS m k g l p).learned) + 1) * 25 ≤ 6000)
 | 0, e, l, p, _, _, h, _ => by omega
 | k + 1, e, l, p, h, hk, ha, hs => by
  have hsz := zlB h.mc.right hp
  rw [goS]
  by_cases hd : (downS m (g ++ l)).2.1 = true
  ·rw [if_pos hd]
   exact ⟨by show (1 : Int) ≠ 3; decide, by show p.1.length ≤ 6000; omega, fun _ => ⟨by show aliveN m (g ++ l) + e ≤ k; omega, hs⟩⟩
  ·rw [if_neg hd]
   obtain ⟨_, _, q3, q4, q5⟩ := zyk h (by omega) (by simpa using hd)
   by_cases hf : fewD m (g ++ l) = []
   ·rw [if_pos hf]
    exact ⟨by show (2 : Int) ≠ 3; decide, by show (roundN m (g ++ l) p).1.length ≤ 6000; omega, fun e => by cases e⟩
   ·rw [if_neg hf]
    obtain ⟨q6, q7⟩ := q5 hf
    rw [if_neg (by omega)]
    refine z2p hp k e _ _ q6 (by rw [List.length_append, List.length_singleton]; omega) (by omega) ?_
    omega
end
end Go.Proofs.YtajnbkhgnppckaaGreatDoor
/- The best, in plain words: searches that go on for better ones; that they are right, and end. -/
namespace Go.Proofs.YtajnbkhgnppckaaGreatDoor
open Go.RowKit
set_option linter.unusedVariables false
set_option linter.unusedSimpArgs false
noncomputable def solveS (m : MdlD) (fuel : Nat) : AnsD :=
 if (goS m fuel [] [] ([], [])).verdict = 2 then
  (if 6000 < (goS m fuel [] [] ([], [])).note.1.length then ⟨3, [], []⟩ else ⟨2, [], (goS m fuel [] [] ([], [])).note.1⟩)
 else ⟨(goS m fuel [] [] ([], [])).verdict, (goS m fuel [] [] ([], [])).vals, []⟩
inductive SolveX (m : MdlD) (fuel : Nat) (a : AnsD) : Prop
 | found (h1 : a.verdict = 1) (h2 : FoundR m [] a.values) (h3 : a.proof = []) : SolveX m fuel a
 | none (h1 : a.verdict = 2) (h2 : a.values = []) (h3 : ProofR m [] a.proof) (h4 : a.proof.length ≤ 6000) : SolveX m fuel a
 | unknown (h1 : a.verdict = 3) (h2 : a.values = []) (h3 : a.proof = []) (h4 : fuel < 300 ∨ 100 < numS (fullS m)) : SolveX m fuel a
section
variable {m : MdlD} {g l : List (List LitD)} {p : NoteS}
theorem zmB (hm : checkM m = 0) {fuel : Nat} (hf : fuel ≤ 300) : SolveX m fuel (solveS m fuel) := by
 have hb := Sea.begin hm
 have h1 := zzk fuel [] ([], []) hb (by simpa using hf)
 have h2 : ¬(fuel < 300 ∨ 100 < numS (fullS m)) → (goS m fuel [] [] ([], [])).verdict ≠ 3 ∧ (goS m fuel [] [] ([], [])).note.1.length ≤ 6000 := fun hn => by
  have ha := z1A (l := [] ++ []) hb.mc.right
  have := z2p (by omega) fuel 0 [] ([], []) hb (by simpa using hf) (by omega) (by show 0 + _ ≤ _; omega)
  exact ⟨this.1, this.2.1⟩
 rw [solveS]
 generalize goS m fuel [] [] ([], []) = r at h1 h2
 cases h1 with
 | found q1 q2 q3 q4 => rw [if_neg (by rw [q1]; decide)]; exact .found q1 q2 rfl
 | none q1 q2 q3 =>
  rw [if_pos q1]
  by_cases e : 6000 < r.note.1.length
  ·rw [if_pos e]
   refine .unknown rfl rfl rfl ?_
   by_cases hn : fuel < 300 ∨ 100 < numS (fullS m)
   ·exact hn
   ·have := (h2 hn).2; omega
  ·rw [if_neg e]; exact .none rfl rfl q3 (by show r.note.1.length ≤ 6000; omega)
 | unknown q1 q2 =>
  rw [if_neg (by rw [q1]; decide)]
  refine .unknown q1 q2 rfl ?_
  by_cases hn : fuel < 300 ∨ 100 < numS (fullS m)
  ·exact hn
  ·exact absurd q1 (h2 hn).1
def thanC (m : MdlD) (vs : List Int) : List LitD := if m.goal = 1 then [⟨m.var, 1, vs.getD m.var.toNat 0 - 1⟩] else if m.goal = 2 then [⟨m.var, 2, vs.getD m.var.toNat 0 + 1⟩] else []
structure BestR where
 verdict : Int
 best : List Int
 nl : Bool
 given : List (List LitD)
 fuel : Nat
 learned : List (List LitD)
 note : NoteS
inductive GivR (m : MdlD) : List (List LitD) → List Int → Bool → Prop
 | none : GivR m [] [] true
 | some (vs : List Int) (h : FoundR m [] vs) (hg : m.goal ≠ 0) : GivR m [thanC m vs] vs false
inductive BestX (m : MdlD) (r : BestR) : Prop
 | any (h0 : m.goal = 0) (h1 : r.verdict = 1) (h2 : FoundR m [] r.best) : BestX m r
 | none (h1 : r.verdict = 2) (h2 : GivR m r.given r.best r.nl) (h3 : ProofR m r.given r.note.1) : BestX m r
 | unknown (h1 : r.verdict = 3) : BestX m r
inductive BestA (m : MdlD) (fuel : Nat) (a : AnsD) : Prop
 | any (h0 : m.goal = 0) (h1 : a.verdict = 1) (h2 : FoundR m [] a.values) (h3 : a.proof = []) : BestA m fuel a
 | best (h0 : m.goal ≠ 0) (h1 : a.verdict = 1) (h2 : FoundR m [] a.values) (h3 : ProofR m [thanC m a.values] a.proof) (h4 : a.proof.length ≤ 6000) : BestA m fuel a
 | none (h1 : a.verdict = 2) (h2 : a.values = []) (h3 : ProofR m [] a.proof) (h4 : a.proof.length ≤ 6000) : BestA m fuel a
 | unknown (h1 : a.verdict = 3) (h2 : a.values = []) (h3 : a.proof = []) (h4 : fuel < 300 ∨ 100 < numS (fullS m)) : BestA m fuel a
end
end Go.Proofs.YtajnbkhgnppckaaGreatDoor
/- Numerals: the library's call, off the shelf, where the library's table lies as it was laid. -/
namespace Go.Proofs.YtajnbkhgnppckaaGreatDoor
open Go.RowKit
set_option linter.unusedVariables false
set_option linter.unusedSimpArgs false
theorem zKc {n : Int} (h : inI64 n) : (itoaS n).size ≤ 21 := by
 have := Lib.itoa_length_le n h.1 h.2
 simpa [itoaS, ByteArray.size] using this
theorem znB : ∃ g, Tryz.prog.globalNamed "internal/strconv.uint64pow10" = some g := Option.isSome_iff_exists.1 (by kernel_rfl)
theorem itoa_ok {n : Int} (h : inI64 n) : Sat Tryz.prog z4d [dI n] (.str (itoaS n)) := by
 intro w S vs hS hl hv hg
 obtain ⟨g, hgn⟩ := znB
 have htab := (hg g hgn).1
 obtain ⟨e0, hz⟩ := (hv 0 _ rfl).int_inv
 have e : vs = #[.int .i64 n] := by
  have hl : vs.size = 1 := hl
  apply Array.ext
  ·simpa using hl
  ·intro i h1 h2
   have : i = 0 := by omega
   subst this
   simpa [Array.getD_eq_getD_getElem?, h1] using e0
 subst e
 refine (Tryz.strconv_Itoa n h.1 h.2 w htab).mono fun e w' ⟨he, k, os, hw⟩ => ?_
 subst hw
 exact ⟨_, he, .str (itoaS n) (Nat.le_trans (zKc h) (by decide)), Lib.below_grow _ w (Nat.le_refl _) k os⟩
theorem zoB {x : LitD} (h1 : inI64 x.var) (h2 : inI64 x.op) (h3 : inI64 x.n) : (litK x).size ≤ 66 := by
 have a := zKc h1; have b := zKc h2; have c := zKc h3
 simp only [litK, ByteArray.size_append]
 show _ + 1 + _ + 1 + _ + 1 ≤ 66
 omega
end Go.Proofs.YtajnbkhgnppckaaGreatDoor
