/- Texts of this proof, one behind the other: nothing is handed in but what is proved here; no condition. -/
import Derived.Test.YtajnbkhgnppckaaGreatDoorMJ
import Derived.Test.YtajnbkhgnppckaaGreatDoorProg
import Derived.Test.YtajnbkhgnppckaaGreatDoorMA
import Derived.Lib.AppendZeros
import Derived.Test.YtajnbkhgnppckaaGreatDoorWLearn
import Derived.Test.YtajnbkhgnppckaaGreatDoorMH
import Derived.Test.YtajnbkhgnppckaaGreatDoorMI
/- What is learned, in plain words: which decisions fail, and why the steps of a trace are right. -/
namespace Go.Proofs.YtajnbkhgnppckaaGreatDoor
open Go.RowKit
set_option linter.unusedVariables false
set_option linter.unusedSimpArgs false
def putS (m : MdlD) (d : List LitD) : List (List Int) := d.foldl putL (fullS m)
noncomputable def failsB (m : MdlD) (l : List (List LitD)) (d : List LitD) : Bool := failS (runS m true l (putS m d))
noncomputable def fewest (m : MdlD) (l : List (List LitD)) (d : List LitD) : List LitD := fewL (failsB m l) d
theorem znp : ∀ (d : List LitD) (s : List (List Int)), d.foldl putL s = keepS (fun v n => d.all fun x => !decide ((v : Int) = x.var) || holdsL x n) s
 | [], s => (zdc fun v n _ => rfl).symm
 | x :: d, s => by
  rw [List.foldl_cons, znp d (putL s x), putL, zSn]
  rfl
theorem zUe {m : MdlD} {d : List LitD} : putS m d = keepS (fun v n => d.all fun x => !decide ((v : Int) = x.var) || holdsL x n) (fullS m) := znp d _
theorem putS_le {m : MdlD} {d : List LitD} : leS (putS m d) (fullS m) := by rw [zUe]; exact zKb
theorem zzA {m : MdlD} {d : List LitD} : storeE m (putS m d) = 0 := ztd zxd putS_le
theorem zAA {m : MdlD} (h : Right m) {d : List LitD} : GoodS (putS m d) m.vars.length := ztb h zzA
theorem zBA {m : MdlD} {a b : List LitD} (h : ∀ x ∈ a, x ∈ b) : leS (putS m b) (putS m a) := by
 rw [zUe, zUe]
 refine zye (leS.refl _) fun v n _ e => ?_
 rw [List.all_eq_true] at e ⊢
 exact fun x hx => e x (h x hx)
theorem zop {m : MdlD} {l : List (List LitD)} (hl : RightMC m l) : ∀ a b : List LitD, (∀ x ∈ a, x ∈ b) → failsB m l a = true → failsB m l b = true := fun a b h ha => by
 have hp := hl.pos
 have k1 : (putS m a).length = m.vars.length := putS_le.1.trans zd
 have k2 : (putS m b).length = m.vars.length := putS_le.1.trans zd
 cases e : failsB m l b with
 | true => rfl
 | false =>
  have h2 := ((zub (cons := true) hl k2).mono (by omega) (zub (cons := true) hl k1) (zBA h) fun op h => h).fail e
  rw [failsB, h2] at ha; cases ha
theorem zCA {m : MdlD} {d : List LitD} (h : ∀ x ∈ d, 1 ≤ x.op ∧ x.op ≤ 4) : putS m d = denyC (fullS m) (d.map oppL) := by
 rw [zUe, denyC]
 refine zBe fun v n _ => ?_
 induction d with
 | nil => rfl
 | cons x d ih =>
  have ih := ih fun y hy => h y (List.mem_cons_of_mem _ hy)
  have hx := zon (h x (List.mem_cons_self ..)) n
  rw [List.all_cons, ih, List.map_cons, atC, atC, List.any_cons, opp_var, hx]
  by_cases e : x.var = (v : Int)
  ·rw [if_pos e, decide_eq_true e.symm]; cases holdsL x n <;> rfl
  ·rw [if_neg e, decide_eq_false fun x => e x.symm]; rfl
structure LearnOk (m : MdlD) (l : List (List LitD)) (d : List LitD) : Prop where
 chk : checkM m = 0
 len : l.length ≤ 600
 cl : ∀ c ∈ l, clauseE m.vars.length c = 0
 dl : d.length ≤ 40
 dr : ∀ x ∈ d, litE m.vars.length x = 0
 turn : ∀ x ∈ d, litE m.vars.length (oppL x) = 0
theorem LearnOk.mc {m : MdlD} {l : List (List LitD)} {d : List LitD} (h : LearnOk m l d) : RightMC m l := zvd h.chk h.cl
theorem LearnOk.ops {m : MdlD} {l : List (List LitD)} {d : List LitD} (h : LearnOk m l d) : ∀ x ∈ d, 1 ≤ x.op ∧ x.op ≤ 4 := fun x hx => (zJ.1 (h.dr x hx)).2.1
theorem LearnOk.sub {m : MdlD} {l : List (List LitD)} {d d' : List LitD} (h : LearnOk m l d) (hs : d'.Sublist d) : LearnOk m l d' := ⟨h.chk, h.len, h.cl, Nat.le_trans hs.length_le h.dl, fun x hx => h.dr x (hs.subset hx), fun x hx => h.turn x (hs.subset hx)⟩
theorem zti {m : MdlD} {l : List (List LitD)} {d : List LitD} : (fewest m l d).Sublist d := zli ..
theorem zpp {m : MdlD} {l : List (List LitD)} {d : List LitD} (h : failsB m l d = true) : failsB m l (fewest m l d) = true := zmi _ _ _ _ h
theorem zqp {m : MdlD} {l : List (List LitD)} {d : List LitD} (h : LearnOk m l d) : clauseE m.vars.length (d.map oppL) = 0 := zhp (by rw [List.length_map]; exact h.dl) fun x hx => by
 obtain ⟨y, hy, rfl⟩ := List.mem_map.1 hx
 exact h.turn y hy
theorem LearnOk.near {m : MdlD} {l : List (List LitD)} {d : List LitD} (h : LearnOk m l d) : ∀ x ∈ d, -1000000 ≤ x.n ∧ x.n ≤ 1000000 := fun x hx => by have := zJ.1 (h.dr x hx); omega
end Go.Proofs.YtajnbkhgnppckaaGreatDoor
/- The steps of a trace, in plain words: each is right behind those ahead of it, and the last one is the nogood. -/
namespace Go.Proofs.YtajnbkhgnppckaaGreatDoor
open Go.RowKit
set_option linter.unusedVariables false
set_option linter.unusedSimpArgs false
theorem zrp {m : MdlD} {con : Int} {s : List (List Int)} {must r : List LitD} (h : IsReason m con s must r) (hp : 0 < m.vars.length) (hcl : clauseE m.vars.length (must ++ r) = 0)
  {u : List (List Int)} (hu : leS u s) (hf : failS u = false) (hlen : u.length = m.vars.length) (hst : unitC u (must ++ r) = u) {v : Nat} {n : Int} (hn : n ∈ u.getD v []) : ∃ us, InS us u ∧ us.getD v 0 = n ∧ holdsC must us = true := by
 have hl := (zld hcl).2
 have hv : ∀ x ∈ must ++ r, 0 ≤ x.var ∧ x.var < (m.vars.length : Int) := fun x hx => (zJ.1 (hl x hx)).1
 have op := unit_op (c := must ++ r) (nv := m.vars.length) hv hp
 obtain ⟨us, h1, h2, h3⟩ := IsOp.congr (Q' := fun _ => true) (vs := []) op hlen hst hf v n hn
 refine ⟨us, h1, h2, ?_⟩
 obtain ⟨x, hx, hh⟩ := zLb.1 h3
 rcases List.mem_append.1 hx with hm | hm
 ·exact zLb.2 ⟨x, hm, hh⟩
 ·have ht := (h.told x hm).2.1
  have hb := hv x hx
  have hin := (hu.2 x.var.toNat).subset (h1.2 x.var.toNat (by omega))
  have := zNj.2 ⟨_, hin, hh⟩
  omega
def clausesS (l : List StepD) : List (List LitD) := l.map fun st => st.clause
noncomputable def simU (m : MdlD) (l : List (List LitD)) (d : List LitD) (steps : List StepD) : List (List Int) := runS m false (l ++ clausesS steps) (putS m d)
structure StepR (m : MdlD) (st : StepD) : Prop where
 kind : st.kind = 1
 con : 0 ≤ st.con ∧ st.con < (m.cons.length : Int)
 by' : byCon m st.con st.clause = true
 cl : clauseE m.vars.length st.clause = 0
section
variable {m : MdlD} {l : List (List LitD)} {d : List LitD} {steps more : List StepD} {s x : List (List Int)}
theorem zkc : clausesS (steps ++ more) = clausesS steps ++ clausesS more := List.map_append
theorem put_len : (putS m d).length = m.vars.length := putS_le.1.trans zd
theorem sim_mc (h : LearnOk m l d) (hs : ∀ st ∈ steps, StepR m st) : RightMC m (l ++ clausesS steps) := zvd h.chk fun c hc => by
 rcases List.mem_append.1 hc with hc | hc
 ·exact h.cl c hc
 ·obtain ⟨st, h1, rfl⟩ := List.mem_map.1 hc
  exact (hs st h1).cl
theorem zVe (h : LearnOk m l d) (hs : ∀ st ∈ steps, StepR m st) : FixR (opsOf m false (l ++ clausesS steps)) (putS m d) (simU m l d steps) := zub (sim_mc h hs) put_len
theorem sim_len (h : LearnOk m l d) (hs : ∀ st ∈ steps, StepR m st) : (simU m l d steps).length = m.vars.length := (zVe h hs).le.1.trans put_len
theorem zgk (h : LearnOk m l d) (hs : ∀ st ∈ steps, StepR m st) (hf : failS (simU m l d steps) = false) {c : List LitD} (hc : c ∈ l ++ clausesS steps) : unitC (simU m l d steps) c = simU m l d steps := by
 rcases (zVe h hs).out with ⟨_, h2⟩ | h2
 ·exact h2 (fun s => unitC s c) (mem_ops.2 (.inr ⟨c, hc, rfl⟩))
 ·rw [h2, zec (by rw [put_len]; exact (sim_mc h hs).pos)] at hf; cases hf
theorem zsp (h : LearnOk m l d) (h1 : ∀ st ∈ steps, StepR m st) (h2 : ∀ st ∈ steps ++ more, StepR m st) : leS (simU m l d (steps ++ more)) (simU m l d steps) :=
 (zVe h h2).mono (by rw [put_len]; exact (sim_mc h h1).pos) (zVe h h1) (leS.refl _) fun op ho => by
  rcases mem_ops.1 ho with ⟨hc, _⟩ | ⟨c, hc, rfl⟩
  ·cases hc
  ·refine mem_ops.2 (.inr ⟨c, ?_, rfl⟩)
   rw [zkc]
   rcases List.mem_append.1 hc with hc | hc
   ·exact List.mem_append_left _ hc
   ·exact List.mem_append_right _ (List.mem_append_left _ hc)
def Sim (m : MdlD) (l : List (List LitD)) (d : List LitD) (steps : List StepD) (s : List (List Int)) : Prop := failS (simU m l d steps) = true ∨ leS (simU m l d steps) s
theorem Sim.grow (hs : Sim m l d steps s) (h : LearnOk m l d) (h1 : ∀ st ∈ steps, StepR m st) (h2 : ∀ st ∈ steps ++ more, StepR m st) : Sim m l d (steps ++ more) s := by
 rcases hs with hs | hs
 ·exact .inl ((zsp h h1 h2).failed hs)
 ·exact .inr ((zsp h h1 h2).trans hs)
theorem ztp {i : Int} {v : Nat} {n : Int} (hat : atE m i = 0) (hl : s.length = m.vars.length) (hle : leS s (fullS m)) (hg : goneB m i s v n = true) : (v < m.vars.length ∧ n ∈ s.getD v []) ∧ ∃ r, goneC m i s v n = [⟨v, 4, n⟩] ++ r ∧ IsReason m i s [⟨v, 4, n⟩] r ∧ clauseE m.vars.length ([⟨v, 4, n⟩] ++ r) = 0 := by
 have hg' := hg
 rw [goneB, Bool.and_eq_true, Bool.and_eq_true, Int.toNat_natCast] at hg'
 obtain ⟨a, b, c⟩ := hg'
 have a : failS s = false := by simpa using a
 have b := zn.1 b
 have c : n ∉ (filterS (conAt m i) s).getD v [] := fun h => by rw [zn.2 h] at c; cases c
 have hv : v < s.length := Classical.byContradiction fun h => by rw [zj (by omega)] at b; cases b
 have hr := zgp (must := [⟨v, 4, n⟩]) hat (zcA hat hl a hv b c)
 refine ⟨⟨by omega, b⟩, _, ?_, hr, hr.clause (Nat.le_refl 1) fun x hx => ?_⟩
 ·rw [goneC, if_pos hg]; rfl
 ·rw [List.mem_singleton.1 hx]
  exact zni (zx hat).1 (show 0 ≤ (v : Int) ∧ (v : Int) < _ by omega) (show 1 ≤ (4 : Int) ∧ (4 : Int) ≤ 4 by decide) (by
   show n ∈ (fullS m).getD ((v : Int).toNat) []
   rw [Int.toNat_natCast]; exact (hle.2 v).subset b)
theorem zDA {i : Int} {v : Nat} {n : Int} (hat : atE m i = 0) (hl : s.length = m.vars.length) (hle : leS s (fullS m)) (hg : goneB m i s v n = true) : StepR m ⟨1, i, goneC m i s v n⟩ := by
 obtain ⟨_, r, e, hr, hc⟩ := ztp hat hl hle hg
 have hi := (zx hat).2
 exact ⟨rfl, hi, by show byCon m i (goneC m i s v n) = true; rw [e]; exact hr.says, by show clauseE _ (goneC m i s v n) = 0; rw [e]; exact hc⟩
theorem zup {i : Int} (hat : atE m i = 0) (hl : s.length = m.vars.length) (hf : failS s = false) (hg : failS (filterS (conAt m i) s) = true) : ∃ r, emptyC m i s = [] ++ r ∧ IsReason m i s [] r ∧ clauseE m.vars.length ([] ++ r) = 0 := by
 have hr := zgp (must := []) hat (zdA hat hl hf hg)
 refine ⟨_, ?_, hr, hr.clause (Nat.zero_le _) fun x hx => (by cases hx)⟩
 have hb : emptyB m i s = true := by rw [emptyB, hf, hg]; rfl
 rw [emptyC, if_pos hb]; rfl
theorem zEA {i : Int} (hat : atE m i = 0) (hl : s.length = m.vars.length) (hf : failS s = false) (hg : failS (filterS (conAt m i) s) = true) : StepR m ⟨1, i, emptyC m i s⟩ := by
 obtain ⟨r, e, hr, hc⟩ := zup hat hl hf hg
 have hi := (zx hat).2
 exact ⟨rfl, hi, by show byCon m i (emptyC m i s) = true; rw [e]; exact hr.says, by show clauseE _ (emptyC m i s) = 0; rw [e]; exact hc⟩
noncomputable def goneStep (m : MdlD) (i : Int) (s : List (List Int)) (v : Nat) (n : Int) : StepD := ⟨1, i, goneC m i s v n⟩
noncomputable def rowSteps (m : MdlD) (i : Int) (s x : List (List Int)) (v : Nat) : List StepD := ((s.getD v []).filter fun n => !hasI (x.getD v []) n).map (goneStep m i s v)
noncomputable def conSteps (m : MdlD) (i : Int) (s x : List (List Int)) (k : Nat) : List StepD := (List.range k).flatMap (rowSteps m i s x)
theorem zhk {i : Int} {k : Nat} : conSteps m i s x (k + 1) = conSteps m i s x k ++ rowSteps m i s x k := by
 rw [conSteps, List.range_succ, List.flatMap_append]; simp [conSteps]
theorem zui {i : Int} {k : Nat} {st : StepD} : st ∈ conSteps m i s x k ↔ ∃ v n, v < k ∧ n ∈ s.getD v [] ∧ n ∉ x.getD v [] ∧ st = goneStep m i s v n := by
 rw [conSteps, List.mem_flatMap]
 constructor
 ·rintro ⟨v, hv, h⟩
  obtain ⟨n, h1, h2⟩ := List.mem_map.1 h
  obtain ⟨h3, h4⟩ := List.mem_filter.1 h1
  exact ⟨v, n, List.mem_range.1 hv, h3, (fun e => by rw [zn.2 e] at h4; cases h4), h2.symm⟩
 ·rintro ⟨v, n, h1, h2, h3, rfl⟩
  refine ⟨v, List.mem_range.2 h1, List.mem_map.2 ⟨n, List.mem_filter.2 ⟨h2, ?_⟩, rfl⟩⟩
  cases e : hasI (x.getD v []) n
  ·rfl
  ·exact absurd (zn.1 e) h3
theorem zFA {a b : List Int} (h : a.Sublist b) : (b.filter fun n => !hasI a n).length + a.length ≤ b.length := by
 have h1 := zpn (p := hasI a) (r := b)
 have h2 : (a.filter (hasI a)) = a := List.filter_eq_self.2 fun n hn => zn.2 hn
 have h3 := (h.filter (hasI a)).length_le
 rw [h2] at h3
 omega
theorem zik {a : List (List Int)} {k : Nat} (h : k < a.length) : sizeS (a.take (k + 1)) = sizeS (a.take k) + a[k].length := by
 have := congrArg sizeS (List.take_append_getElem h)
 rw [← this, sizeS, List.map_append, List.sum_append]
 simp [sizeS]
theorem zGA {i : Int} (h : leS x s) : ∀ k, k ≤ s.length → (conSteps m i s x k).length + sizeS (x.take k) ≤ sizeS (s.take k) := by
 intro k
 induction k with
 | zero => intro _; exact Nat.le_refl _
 | succ k ih =>
  intro hk
  have ih := ih (by omega)
  have hx : k < x.length := by rw [h.1]; omega
  have e1 : sizeS (x.take (k + 1)) = sizeS (x.take k) + (x.getD k []).length := by rw [getD_at _ hx, zik hx]
  have e2 : sizeS (s.take (k + 1)) = sizeS (s.take k) + (s.getD k []).length := by rw [getD_at _ hk, zik hk]
  have := zFA (h.2 k)
  rw [zhk, List.length_append, e1, e2, rowSteps, List.length_map]
  omega
structure Tr (m : MdlD) (l : List (List LitD)) (d : List LitD) (steps : List StepD) (s : List (List Int)) : Prop where
 reach : Reach (opsOf m true l) (putS m d) s
 sim : Sim m l d steps s
 ok : ∀ st ∈ steps, StepR m st
 size : steps.length + sizeS s ≤ 36
 size2 : steps.length + sizeS s ≤ sizeS (fullS m)
theorem Tr.len (h : Tr m l d steps s) : s.length = m.vars.length := h.reach.le.1.trans put_len
theorem Tr.le (h : Tr m l d steps s) : leS s (fullS m) := h.reach.le.trans putS_le
theorem Tr.store (h : Tr m l d steps s) : storeE m s = 0 := ztd zxd h.le
theorem Tr.filtR (h : Tr m l d steps s) (hk : LearnOk m l d) {i : Int} (hi : 0 ≤ i ∧ i < (m.cons.length : Int)) : FiltR m i s := by
 refine zqz (filtE_3 ?_ hi)
 rw [zcn (by rw [hk.chk]; decide), zdn]; exact h.store
theorem zvp (hr : Right m) : sizeS (fullS m) ≤ 36 := by
 have h1 : ∀ k, k ≤ m.vars.length → sizeS ((fullS m).take k) ≤ k * 6 := by
  intro k
  induction k with
  | zero => intro _; exact Nat.le_refl _
  | succ k ih =>
   intro hk
   have hx : k < (fullS m).length := by rw [zd]; exact hk
   have := ih (by omega)
   have h6 := zyd hr k
   rw [getD_at _ hx] at h6
   have e1 : sizeS ((fullS m).take (k + 1)) = sizeS ((fullS m).take k) + ((fullS m)[k]).length := zik hx
   omega
 have h2 := h1 _ (Nat.le_refl _)
 rw [List.take_of_length_le (by rw [zd]; exact Nat.le_refl _)] at h2
 have := hr.vars
 omega
theorem Tr.begin (h : LearnOk m l d) : Tr m l d [] (putS m d) :=
 ⟨Reach.refl _ _, .inr (zVe h fun _ hx => (by cases hx)).le, fun _ hx => (by cases hx), by
  have := (putS_le (m := m) (d := d)).size
  have := zvp h.mc.right
  show 0 + _ ≤ _
  omega, by
  have := (putS_le (m := m) (d := d)).size
  show 0 + _ ≤ _
  omega⟩
theorem con_mem {i : Int} (hat : atE m i = 0) : conAt m i ∈ m.cons := by
 have h := (zx hat).2
 have hi : i.toNat < m.cons.length := by omega
 rw [conAt, getD_at _ hi]
 exact List.getElem_mem hi
theorem zjk (hp : 0 < s.length) (hf : failS s = false) : 0 < sizeS s := by
 have := zy.1 hf 0 hp
 cases s with
 | nil => cases hp
 | cons a s =>
  have : a ≠ [] := this
  have : 0 < a.length := List.length_pos_iff.2 this
  show 0 < a.length + _
  omega
theorem zkk : sizeS (noneS s) = 0 := by
 rw [noneS, sizeS, List.map_replicate, List.sum_replicate_nat]; rfl
theorem Reach.none {ops : List Op} {s0 r t : List (List Int)} (h : Reach ops s0 r) (hf : failS r = true) (hl : t.length = s0.length) : Reach ops s0 (noneS t) :=
 ⟨znd hl, fun t h1 h2 h3 => by have := (h.all t h1 h2 h3).fail h2; rw [hf] at this; cases this⟩
theorem Tr.empty (h : Tr m l d steps s) (hk : LearnOk m l d) {i : Int} (hat : atE m i = 0) (hf : failS s = false) (hg : failS (filterS (conAt m i) s) = true) :
  Tr m l d (steps ++ [⟨1, i, emptyC m i s⟩]) (noneS s) ∧ sizeS (noneS s) < sizeS s := by
 have hp : 0 < s.length := by rw [h.len]; exact hk.mc.pos
 have hpos := zjk hp hf
 have hok : ∀ st ∈ steps ++ [⟨1, i, emptyC m i s⟩], StepR m st := fun st hs => by
  rcases List.mem_append.1 hs with hs | hs
  ·exact h.ok st hs
  ·rw [List.mem_singleton.1 hs]; exact zEA hat h.len hf hg
 have hs := h.sim.grow hk h.ok hok
 refine ⟨⟨?_, ?_, hok, ?_, ?_⟩, by rw [zkk]; exact hpos⟩
 ·refine Reach.none (r := filterS (conAt m i) s) ?_ hg (h.len.trans put_len.symm)
  exact h.reach.step (ops_ok hk.mc) put_len (mem_ops.2 (.inl ⟨rfl, _, con_mem hat, rfl⟩))
 ·refine .inl ?_
  rcases hs with hs | hs
  ·exact hs
  ·cases hu : failS (simU m l d (steps ++ [⟨1, i, emptyC m i s⟩]))
   ·obtain ⟨r, e, hr, hc⟩ := zup hat h.len hf hg
    have hl := sim_len hk hok
    have hst := zgk hk hok hu (c := emptyC m i s) (by rw [zkc]; exact List.mem_append_right _ (List.mem_append_right _ (List.mem_singleton.2 rfl)))
    have hst : unitC (simU m l d (steps ++ [⟨1, i, emptyC m i s⟩])) ([] ++ r) = simU m l d (steps ++ [⟨1, i, emptyC m i s⟩]) := by rw [← e]; exact hst
    have h0 := zy.1 hu 0 (by rw [hl]; exact hk.mc.pos)
    obtain ⟨n, hn⟩ := List.exists_mem_of_ne_nil _ h0
    obtain ⟨us, _, _, h3⟩ := zrp hr hk.mc.pos hc hs hu hl hst hn
    cases h3
   ·rfl
 ·have := h.size
  rw [List.length_append, zkk, List.length_singleton]
  omega
 ·have := h.size2
  rw [List.length_append, zkk, List.length_singleton]
  omega
theorem Tr.con (h : Tr m l d steps s) (hk : LearnOk m l d) {i : Int} (hat : atE m i = 0) (hf : failS s = false) (hg : failS (filterS (conAt m i) s) = false) :
  Tr m l d (steps ++ conSteps m i s (filterS (conAt m i) s) s.length) (filterS (conAt m i) s) ∧ (conSteps m i s (filterS (conAt m i) s) s.length = [] → filterS (conAt m i) s = s) ∧ (conSteps m i s (filterS (conAt m i) s) s.length ≠ [] → sizeS (filterS (conAt m i) s) < sizeS s) := by
 have hop := (h.filtR hk (zx hat).2).op
 have hle := hop.le h.len
 have hk' : filterS (conAt m i) s = keepS (mayB (trueC (conAt m i)) s) s := hop.some s h.len hf ((hop.nofail h.len).1 hg)
 have hgone : ∀ v n, n ∈ s.getD v [] → n ∉ (filterS (conAt m i) s).getD v [] → goneB m i s v n = true := fun v n h1 h2 => by
  rw [goneB, Int.toNat_natCast, hf, zn.2 h1]
  cases e : hasI ((filterS (conAt m i) s).getD v []) n
  ·rfl
  ·exact absurd (zn.1 e) h2
 have hok : ∀ st ∈ steps ++ conSteps m i s (filterS (conAt m i) s) s.length, StepR m st := fun st hs => by
  rcases List.mem_append.1 hs with hs | hs
  ·exact h.ok st hs
  ·obtain ⟨v, n, h1, h2, h3, rfl⟩ := zui.1 hs
   exact zDA hat h.len h.le (hgone v n h2 h3)
 have hs := h.sim.grow hk h.ok hok
 have hsz := zGA (m := m) (i := i) hle s.length (Nat.le_refl _)
 rw [List.take_length, List.take_of_length_le (by rw [hle.1]; exact Nat.le_refl _)] at hsz
 refine ⟨⟨?_, ?_, hok, ?_, ?_⟩, fun e => ?_, fun e => ?_⟩
 ·exact h.reach.step (ops_ok hk.mc) put_len (mem_ops.2 (.inl ⟨rfl, _, con_mem hat, rfl⟩))
 ·rcases hs with hs | hs
  ·exact .inl hs
  ·cases hu : failS (simU m l d (steps ++ conSteps m i s (filterS (conAt m i) s) s.length))
   ·refine .inr ?_
    have hl := sim_len hk hok
    have hall : ∀ (v : Nat) (n : Int), n ∈ (simU m l d (steps ++ conSteps m i s (filterS (conAt m i) s) s.length)).getD v [] → mayB (trueC (conAt m i)) s v n = true := fun v n hn => by
     have hns := (hs.2 v).subset hn
     cases hm : mayB (trueC (conAt m i)) s v n
     ·have hn2 : n ∉ (filterS (conAt m i) s).getD v [] := fun e => by
       rw [hk', zp] at e
       rw [(List.mem_filter.1 e).2] at hm; cases hm
      have hg := hgone v n hns hn2
      obtain ⟨⟨hv, _⟩, r, e, hr, hc⟩ := ztp hat h.len h.le hg
      have hst := zgk hk hok hu (c := goneC m i s v n) (by
       rw [zkc]
       refine List.mem_append_right _ (List.mem_append_right _ (List.mem_map.2 ⟨goneStep m i s v n, zui.2 ⟨v, n, by rw [h.len]; exact hv, hns, hn2, rfl⟩, rfl⟩)))
      have hst : unitC (simU m l d (steps ++ conSteps m i s (filterS (conAt m i) s) s.length)) ([⟨v, 4, n⟩] ++ r) = simU m l d (steps ++ conSteps m i s (filterS (conAt m i) s) s.length) := by rw [← e]; exact hst
      obtain ⟨us, _, h2, h3⟩ := zrp hr hk.mc.pos hc hs hu hl hst hn
      obtain ⟨x, hx, hh⟩ := zLb.1 h3
      rw [List.mem_singleton.1 hx] at hh
      have h2' : us.getD ((v : Int).toNat) 0 = n := by rw [Int.toNat_natCast]; exact h2
      simp [holdsL, h2'] at hh
      exact absurd (by simpa using h2) hh
     ·rfl
    have h2 := zye (f := mayB (trueC (conAt m i)) s) (g := mayB (trueC (conAt m i)) s) hs fun v n hn e => e
    rw [zdc hall, ← hk'] at h2
    exact h2
   ·exact .inl hu
 ·have := h.size
  rw [List.length_append]
  omega
 ·have := h.size2
  rw [List.length_append]
  omega
 ·have : ∀ (v : Nat) (n : Int), n ∈ s.getD v [] → mayB (trueC (conAt m i)) s v n = true := fun v n hn => by
   cases hm : mayB (trueC (conAt m i)) s v n
   ·have hn2 : n ∉ (filterS (conAt m i) s).getD v [] := fun e => by
     rw [hk', zp] at e
     rw [(List.mem_filter.1 e).2] at hm; cases hm
    have hv : v < s.length := Classical.byContradiction fun h => by rw [zj (by omega)] at hn; cases hn
    have := (zui (m := m) (i := i)).2 ⟨v, n, hv, hn, hn2, rfl⟩
    rw [e] at this; cases this
   ·rfl
  rw [hk', zdc this]
 ·have : 0 < (conSteps m i s (filterS (conAt m i) s) s.length).length := List.length_pos_iff.2 e
  omega
theorem Tr.units (h : Tr m l d steps s) (hk : LearnOk m l d) : Tr m l d steps (runS m false l s) ∧ leS (runS m false l s) s := by
 have hr := zub (cons := false) hk.mc h.len
 have hsub : ∀ op ∈ opsOf m false l, op ∈ opsOf m true l := fun op ho => by
  rcases mem_ops.1 ho with ⟨hc, _⟩ | hc
  ·cases hc
  ·exact mem_ops.2 (.inr hc)
 refine ⟨⟨⟨hr.le.trans h.reach.le, fun t h1 h2 h3 => hr.all t (h.reach.all t h1 h2 h3) h2 fun op ho => h3 op (hsub op ho)⟩, ?_, h.ok, ?_, ?_⟩, hr.le⟩
 ·rcases h.sim with hs | hs
  ·exact .inl hs
  ·cases hu : failS (simU m l d steps)
   ·refine .inr (hr.all _ hs hu fun op ho => ?_)
    rcases mem_ops.1 ho with ⟨hc, _⟩ | ⟨c, hc, rfl⟩
    ·cases hc
    ·exact zgk hk h.ok hu (List.mem_append_left _ hc)
   ·exact .inl hu
 ·have := h.size
  have := hr.le.size
  omega
 ·have := h.size2
  have := hr.le.size
  omega
theorem Tr.done (h : Tr m l d steps s) (hk : LearnOk m l d) (hf : failsB m l d = true) (he : failS s = true ∨ Stab (opsOf m true l) s) : failS (simU m l d steps) = true := by
 have hs : failS s = true := by
  cases e : failS s
  ·rcases he with he | he
   ·rw [e] at he; cases he
   ·have := runS_eq hk.mc put_len (h.reach.stop e he)
    rw [failsB, this, e] at hf; cases hf
  ·rfl
 rcases h.sim with h1 | h1
 ·exact h1
 ·exact h1.failed hs
end
def lastS (d : List LitD) : StepD := ⟨2, 0, d.map oppL⟩
theorem zlk {m : MdlD} : ∀ (a b : List StepD) (all : List (List LitD)), rightS m all (a ++ b) = (rightS m all a && rightS m (all ++ clausesS a) b)
 | [], b, all => by
  show rightS m all b = (rightS m all [] && rightS m (all ++ []) b)
  rw [List.append_nil]; rfl
 | x :: a, b, all => by
  rw [List.cons_append, rightS, zlk a b, rightS, Bool.and_assoc, List.append_assoc]; rfl
theorem zwp {m : MdlD} : ∀ (a : List StepD) (all : List (List LitD)), (∀ st ∈ a, StepR m st) → rightS m all a = true
 | [], all, _ => rfl
 | x :: a, all, h => by
  have hx := h x (List.mem_cons_self ..)
  rw [rightS, zwp a _ fun st hs => h st (List.mem_cons_of_mem _ hs), stepB, if_pos hx.kind, hx.by']; rfl
structure TraceR (m : MdlD) (l : List (List LitD)) (d : List LitD) (t : List StepD) : Prop where
 right : rightS m l t = true
 len : 0 < t.length ∧ t.length ≤ 37
 len2 : t.length ≤ sizeS (fullS m) + 1
 cl : ∀ st ∈ t, clauseE m.vars.length st.clause = 0
 con : ∀ st ∈ t, st.kind = 1 → 0 ≤ st.con ∧ st.con < (m.cons.length : Int)
 last : (t.getD (t.length - 1) ⟨0, 0, []⟩).clause = d.map oppL
theorem Tr.trace {m : MdlD} {l : List (List LitD)} {d : List LitD} {steps : List StepD} {s : List (List Int)} (h : Tr m l d steps s) (hk : LearnOk m l d) (hf : failsB m l d = true) (he : failS s = true ∨ Stab (opsOf m true l) s) : TraceR m l d (steps ++ [lastS d]) := by
 refine ⟨?_, ?_, ?_, fun st hs => ?_, fun st hs e => ?_, ?_⟩
 ·rw [zlk, zwp _ _ h.ok, Bool.true_and]
  show (stepB m (l ++ clausesS steps) (lastS d) && true) = true
  rw [Bool.and_true]
  show (decide ((0 : Int) = 0) && byUnit m (l ++ clausesS steps) (d.map oppL)) = true
  rw [byUnit, ← zCA hk.ops]
  exact h.done hk hf he
 ·have := h.size
  rw [List.length_append, List.length_singleton]
  omega
 ·have := h.size2
  rw [List.length_append, List.length_singleton]
  omega
 ·rcases List.mem_append.1 hs with hs | hs
  ·exact (h.ok st hs).cl
  ·rw [List.mem_singleton.1 hs]; exact zqp hk
 ·rcases List.mem_append.1 hs with hs | hs
  ·exact (h.ok st hs).con
  ·rw [List.mem_singleton.1 hs] at e; cases e
 ·rw [List.length_append, List.length_singleton, Nat.add_sub_cancel, getD_at _ (show steps.length < (steps ++ [lastS d]).length by rw [List.length_append, List.length_singleton]; omega), List.getElem_append_right (Nat.le_refl _)]
  simp [lastS]
theorem TraceR.steps {m : MdlD} {l : List (List LitD)} {d : List LitD} {t : List StepD} (h : TraceR m l d t) (hk : LearnOk m l d) : StepsOk m l t := ⟨hk.chk, hk.len, by have := h.len; omega, hk.cl, h.cl, h.con⟩
theorem zBd {α : Type} {f : Nat → α → Int} : ∀ {xs : List α} {i : Nat}, (∀ j, ∀ x ∈ xs, f j x = 0) → firstE f i xs = 0
 | [], _, _ => rfl
 | x :: xs, i, h => by rw [firstE, if_pos (h i x (List.mem_cons_self ..)), zBd fun j y hy => h j y (List.mem_cons_of_mem _ hy)]
theorem TraceR.stepsE {m : MdlD} {l : List (List LitD)} {d : List LitD} {t : List StepD} (h : TraceR m l d t) : stepsE m [] t = 0 := by
 have := h.len
 have e1 : firstE (fun _ (s : StepD) => clauseE m.vars.length s.clause) 0 t = 0 := zBd fun _ x hx => h.cl x hx
 have e2 : firstE (fun _ (s : StepD) => stepConF m s) 0 t = 0 := zBd fun _ x hx => by
  rw [stepConF, if_neg]
  rintro ⟨h1, h2⟩
  have := h.con x hx h1
  omega
 rw [Go.Proofs.YtajnbkhgnppckaaGreatDoor.stepsE, if_neg (by show ¬(600 < 0 ∨ _); omega), zFz, e1, e2]; rfl
abbrev TrS : Type := List StepD × List (List Int)
noncomputable def conT (m : MdlD) (i : Int) (p : TrS) : TrS × Bool := if failS (filterS (conAt m i) p.2) = true then ((p.1 ++ [⟨1, i, emptyC m i p.2⟩], noneS p.2), true)
 else ((p.1 ++ conSteps m i p.2 (filterS (conAt m i) p.2) p.2.length, filterS (conAt m i) p.2), !(conSteps m i p.2 (filterS (conAt m i) p.2) p.2.length).isEmpty)
noncomputable def consT (m : MdlD) : Nat → Nat → TrS → Bool → TrS × Bool
 | 0, _, p, c => (p, c)
 | k + 1, i, p, c => if failS p.2 = true then (p, c) else consT m k (i + 1) (conT m i p).1 ((conT m i p).2 || c)
noncomputable def roundT (m : MdlD) (l : List (List LitD)) (p : TrS) : TrS × Bool :=
 (((consT m m.cons.length 0 p false).1.1, runS m false l (consT m m.cons.length 0 p false).1.2), if runS m false l (consT m m.cons.length 0 p false).1.2 = (consT m m.cons.length 0 p false).1.2 then (consT m m.cons.length 0 p false).2 else true)
noncomputable def runT (m : MdlD) (l : List (List LitD)) : Nat → TrS → TrS
 | 0, p => p
 | k + 1, p => if failS p.2 = true then p else if (roundT m l p).2 = true then runT m l k (roundT m l p).1 else (roundT m l p).1
noncomputable def traceS (m : MdlD) (l : List (List LitD)) (d : List LitD) : List StepD := (runT m l 37 ([], putS m d)).1 ++ [lastS d]
section
variable {m : MdlD} {l : List (List LitD)} {d : List LitD}
theorem at_con (h : LearnOk m l d) {i : Nat} (hi : i < m.cons.length) : atE m i = 0 := atE_of h.chk (by omega)
theorem zmk {p : TrS} (h : Tr m l d p.1 p.2) (hk : LearnOk m l d) {i : Nat} (hi : i < m.cons.length) (hf : failS p.2 = false) :
  Tr m l d (conT m i p).1.1 (conT m i p).1.2 ∧ ((conT m i p).2 = true → sizeS (conT m i p).1.2 < sizeS p.2) ∧ ((conT m i p).2 = false → (conT m i p).1.2 = p.2 ∧ filterS (conAt m i) p.2 = p.2) := by
 have hat := at_con hk hi
 cases hg : failS (filterS (conAt m i) p.2)
 ·obtain ⟨h1, h2, h3⟩ := h.con hk hat hf hg
  have e : conT m i p = ((p.1 ++ conSteps m i p.2 (filterS (conAt m i) p.2) p.2.length, filterS (conAt m i) p.2), !(conSteps m i p.2 (filterS (conAt m i) p.2) p.2.length).isEmpty) := by
   rw [conT, if_neg (by rw [hg]; decide)]
  rw [e]
  refine ⟨h1, fun x => h3 fun e => ?_, fun x => ?_⟩
  ·rw [e] at x; cases x
  ·have := h2 (List.isEmpty_iff.1 (by simpa using x))
   exact ⟨this, this⟩
 ·obtain ⟨h1, h2⟩ := h.empty hk hat hf hg
  have e : conT m i p = ((p.1 ++ [⟨1, i, emptyC m i p.2⟩], noneS p.2), true) := by rw [conT, if_pos hg]
  rw [e]
  exact ⟨h1, fun _ => h2, fun x => by cases x⟩
theorem znk (hk : LearnOk m l d) : ∀ (k i : Nat) (p : TrS) (c : Bool), i + k = m.cons.length → Tr m l d p.1 p.2 →
  Tr m l d (consT m k i p c).1.1 (consT m k i p c).1.2 ∧ sizeS (consT m k i p c).1.2 ≤ sizeS p.2 ∧ ((consT m k i p c).2 = true → c = true ∨ sizeS (consT m k i p c).1.2 < sizeS p.2) ∧
   ((consT m k i p c).2 = false → c = false ∧ (consT m k i p c).1.2 = p.2 ∧ (failS p.2 = true ∨ ∀ j, i ≤ j → j < m.cons.length → filterS (conAt m j) p.2 = p.2))
 | 0, i, p, c, hi, h => ⟨h, Nat.le_refl _, fun e => .inl e, fun e => ⟨e, rfl, .inr fun j h1 h2 => by omega⟩⟩
 | k + 1, i, p, c, hi, h => by
  cases hf : failS p.2
  ·obtain ⟨h1, h2, h3⟩ := zmk h hk (i := i) (by omega) hf
   obtain ⟨i1, i2, i3, i4⟩ := znk hk k (i + 1) (conT m i p).1 ((conT m i p).2 || c) (by omega) h1
   rw [consT, if_neg (by rw [hf]; decide)]
   have hle : sizeS (conT m i p).1.2 ≤ sizeS p.2 := by
    cases e : (conT m i p).2
    ·rw [(h3 e).1]; exact Nat.le_refl _
    ·exact Nat.le_of_lt (h2 e)
   refine ⟨i1, Nat.le_trans i2 hle, fun e => ?_, fun e => ?_⟩
   ·rcases i3 e with e | e
    ·rcases Bool.or_eq_true _ _ ▸ e with e | e
     ·exact .inr (Nat.lt_of_le_of_lt i2 (h2 e))
     ·exact .inl e
    ·exact .inr (Nat.lt_of_lt_of_le e hle)
   ·obtain ⟨a, b, g⟩ := i4 e
    rw [Bool.or_eq_false_iff] at a
    obtain ⟨e1, e2⟩ := h3 a.1
    rw [e1] at b g
    refine ⟨a.2, b, .inr fun j q1 q2 => ?_⟩
    by_cases hj : j = i
    ·rw [hj]; exact e2
    ·rcases g with g | g
     ·rw [hf] at g; cases g
     ·exact g j (by omega) q2
  ·rw [consT, if_pos hf]
   exact ⟨h, Nat.le_refl _, fun e => .inl e, fun e => ⟨e, rfl, .inl rfl⟩⟩
theorem zok {p : TrS} (h : Tr m l d p.1 p.2) (hk : LearnOk m l d) (hf : failS p.2 = false) :
  Tr m l d (roundT m l p).1.1 (roundT m l p).1.2 ∧ ((roundT m l p).2 = true → sizeS (roundT m l p).1.2 < sizeS p.2) ∧ ((roundT m l p).2 = false → Stab (opsOf m true l) (roundT m l p).1.2) := by
 obtain ⟨i1, i2, i3, i4⟩ := znk hk m.cons.length 0 p false (Nat.zero_add _) h
 obtain ⟨j1, j2⟩ := i1.units hk
 rw [roundT]
 generalize consT m m.cons.length 0 p false = r at i1 i2 i3 i4 j1 j2 ⊢
 refine ⟨j1, fun e => ?_, fun e => ?_⟩
 ·by_cases hx : runS m false l r.1.2 = r.1.2
  ·have e : r.2 = true := by simpa [hx] using e
   show sizeS (runS m false l r.1.2) < _
   rw [hx]
   rcases i3 e with e | e
   ·cases e
   ·exact e
  ·exact Nat.lt_of_lt_of_le (j2.size_lt hx) i2
 ·by_cases hx : runS m false l r.1.2 = r.1.2
  ·have e : r.2 = false := by simpa [hx] using e
   obtain ⟨_, b, g⟩ := i4 e
   show Stab _ (runS m false l r.1.2)
   rw [hx, b]
   rw [b] at hx
   rcases g with g | g
   ·rw [hf] at g; cases g
   intro op ho
   rcases mem_ops.1 ho with ⟨_, c, hc, rfl⟩ | ⟨c, hc, rfl⟩
   ·obtain ⟨j, hj, rfl⟩ := List.getElem_of_mem hc
    have := g j (Nat.zero_le _) hj
    rwa [conAt, Int.toNat_natCast, getD_at _ hj] at this
   ·have hr := zub (cons := false) hk.mc h.len
    rw [hx] at hr
    rcases hr.out with ⟨_, h2⟩ | h2
    ·exact h2 _ (mem_ops.2 (.inr ⟨c, hc, rfl⟩))
    ·rw [h2, zec (by rw [h.len]; exact hk.mc.pos)] at hf; cases hf
  ·simp [hx] at e
theorem zvi (hk : LearnOk m l d) : ∀ (k : Nat) (p : TrS), Tr m l d p.1 p.2 → sizeS p.2 ≤ k → Tr m l d (runT m l (k + 1) p).1 (runT m l (k + 1) p).2 ∧ (failS (runT m l (k + 1) p).2 = true ∨ Stab (opsOf m true l) (runT m l (k + 1) p).2)
 | k, p, h, hs => by
  cases hf : failS p.2
  ·obtain ⟨h1, h2, h3⟩ := zok h hk hf
   rw [runT, if_neg (by rw [hf]; decide)]
   have hp := zjk (by rw [h.len]; exact hk.mc.pos) hf
   cases e : (roundT m l p).2
   ·rw [if_neg (by decide)]; exact ⟨h1, .inr (h3 e)⟩
   ·rw [if_pos rfl]
    have := h2 e
    match k, hs with
    | 0, hs => omega
    | k + 1, hs => exact zvi hk k _ h1 (by omega)
  ·rw [runT, if_pos hf]; exact ⟨h, .inl hf⟩
theorem zxp (hk : LearnOk m l d) (hf : failsB m l d = true) : TraceR m l d (traceS m l d) := by
 have hb := Tr.begin hk
 obtain ⟨h1, h2⟩ := zvi hk 36 ([], putS m d) hb (by have := hb.size; simpa using this)
 exact h1.trace hk hf h2
end
end Go.Proofs.YtajnbkhgnppckaaGreatDoor
/- What slices.Grow does to a list that is nil. -/
namespace Go.Proofs.YtajnbkhgnppckaaGreatDoor
open Go.RowKit
set_option linter.unusedVariables false
theorem zHA (w : World) : Calls Tryz.prog 122 #[.slice none 0 0, .int .i64 0] w fun e w' => e = .returned (.slice none 0 0) ∧ w = w' := by
 go_enter Tryz.func122, Tryz.ntmps122
 go_wp2
 all_goals go_ret
 all_goals exact ⟨rfl, rfl⟩
set_option maxRecDepth 100000 in
theorem zIA (n : Nat) (h0 : 0 < n) (h : n * 24 ≤ 140737488355328) (w : World) : Calls Tryz.prog 122 #[.slice none 0 0, .int .i64 n] w fun e w' => ∃ cap cells, e = .returned (.slice (some ⟨w.heap.size, 0, none⟩) 0 cap) ∧ w'.heap[w.heap.size]? = some (.cells cells 86 (0, 0)) ∧ cells.size = cap * 3 ∧ cap ≤ maxLen ∧ w'.heap.size = w.heap.size + 1 ∧ Below w.heap.size w w' := by
 go_enter Tryz.func122, Tryz.ntmps122
 have happ := Lib.run_append_nil_zeros (P := Tryz.prog) w 46 3 46 86 Tryz.t86 (.agg #[.int .i64 0, .int .i64 0, .int .i64 0]) .i64 .i64 Tryz.underlying46 Tryz.underlying3 (by kernel_rfl) (by kernel_rfl) n h0 (by decide) (by omega) (by show n * 24 ≤ _; omega)
 have hcap := grownCap_le_maxLen w n 0 86 (by unfold maxLen; omega)
 have hge := grownCap_ge w n 0 86
 generalize grownCap w n 0 86 = cap at happ hcap hge
 have hZs : (Builtin.zeroCells (Value.agg #[.int .i64 0, .int .i64 0, .int .i64 0]).cells n ++ Builtin.zeroCells (Value.agg #[.int .i64 0, .int .i64 0, .int .i64 0]).cells (cap - n)).size = cap * 3 := by
  simp [size_zeroCells, Value.cells]; omega
 generalize Builtin.zeroCells (Value.agg #[.int .i64 0, .int .i64 0, .int .i64 0]).cells n ++ Builtin.zeroCells (Value.agg #[.int .i64 0, .int .i64 0, .int .i64 0]).cells (cap - n) = Z at happ hZs
 go_wp2_with (at_builtin; refine Lib.wpList_append_run _ rfl _ _ _ _ rfl _ _ rfl rfl _ _ happ ?_)
 go_ret
 exact ⟨cap, Z, rfl, heap_alloc_new w _, hZs, hcap, by simp, ⟨rfl, rfl, rfl, by simp, fun k hk => Below.heap_alloc w _ k hk⟩⟩
end Go.Proofs.YtajnbkhgnppckaaGreatDoor
/- What slices.Clone, slices.Grow and slices.Concat answer for lists of literals. -/
namespace Go.Proofs.YtajnbkhgnppckaaGreatDoor
open Go.RowKit
set_option linter.unusedVariables false
set_option linter.unusedSimpArgs false
theorem zJA (l : List LitD) : SatH Tryz.prog zFf [.sl .lit l] [] (.own 3000) [(3000, .row 86 .lit l)] :=
 zEs l fun ok _ => by
  rw [zDs]
  intro b hb
  refine za (fun e => ?_) fun e => ⟨?_, ?_⟩
  ·rw [hb e]; exact ⟨rfl, rfl⟩
  ·refine room_of (t := .lit) ?_
   have := (ok_list (t := .lit) (ok1 ok)).1
   show (0 + l.length) * 24 ≤ _
   have h8 : l.length * 24 ≤ 140737488355328 := this
   omega
  ·exact ⟨rfl, rfl⟩
theorem zKA (n : Nat) (hn : n * 24 ≤ 140737488355328) : SatH Tryz.prog zij [.nil, dI n] [] (.own 3000) [(3000, .row 86 .lit [])] := by
 intro w S vs pl hS hl hv hh _
 have e0 : vs.getD 0 undef = .slice none 0 0 := Rp.nil_inv (hv 0 _ rfl)
 have e1 : vs.getD 1 undef = .int .i64 n := (Rp.int_inv (hv 1 _ rfl)).1
 have ev : vs = #[.slice none 0 0, .int .i64 n] := by
  have hl2 : vs.size = 2 := hl
  apply Array.ext (by simp [hl2])
  intro i h1 h2
  simp [Array.getD_eq_getD_getElem?] at e0 e1
  match i, h1 with
  | 0, h1 => rw [Array.getElem?_eq_getElem h1] at e0; simpa using e0
  | 1, h1 => rw [Array.getElem?_eq_getElem h1] at e1; simpa using e1
  | i + 2, h1 => exact absurd h1 (by omega)
 subst ev
 by_cases h0 : n = 0
 ·subst h0
  refine (zHA w).mono fun e w' ⟨he, hw⟩ => ?_
  subst he hw
  exact own_new (t := .lit) (xs := []) hS (fun pl' => ⟨by show 0 * 24 ≤ lim; exact Nat.le_of_ble_eq_true rfl, [], rfl, ⟨rfl, .inl ⟨rfl, rfl⟩⟩, fun cs h => (by cases h), fun i x cs h => (by cases h)⟩) (fun b h => by cases h) (Below.refl _ _)
 ·refine (zIA n (by omega) hn w).mono fun e w' ⟨cap, cells, he, h1, h2, h3, h4, h5⟩ => ?_
  subst he
  refine own_new (t := .lit) (xs := []) hS (fun pl' => ⟨by show 0 * 24 ≤ lim; exact Nat.le_of_ble_eq_true rfl, [], rfl, ⟨rfl, .inr ⟨w.heap.size, cap, cells, rfl, Nat.zero_le _, h1, Nat.zero_le _, h3, h2, rfl⟩⟩, fun cs h => (by cases h), fun i x cs h => (by cases h)⟩) (fun b h => ?_) h5
  have : w.heap.size = b := by injection h
  omega
theorem zLA {ls : List (List LitD)} (hl : ls.length ≤ 1000) (hr : ∀ l ∈ ls, l.length ≤ 1000000) : Sat Tryz.prog zGf [.sl (.list .lit) ls] (.sl .lit ls.flatten) :=
 zIs ls fun ok => by
  have flat : ∀ k, ((ls.take k).flatten).length ≤ k * 1000000 := fun k => by
   have h1 : ∀ xs : List (List LitD), (∀ l ∈ xs, l.length ≤ 1000000) → xs.flatten.length ≤ xs.length * 1000000 := fun xs => by
    induction xs with
    | nil => exact fun _ => Nat.le_refl _
    | cons a xs ih =>
     intro h
     have h1 := h a (List.mem_cons_self ..)
     have h2 := ih fun l hl => h l (List.mem_cons_of_mem _ hl)
     rw [List.flatten_cons, List.length_append, List.length_cons]; omega
   have := h1 (ls.take k) fun l hl => hr l (List.mem_of_mem_take hl)
   rw [List.length_take] at this
   exact Nat.le_trans this (Nat.mul_le_mul_right _ (Nat.min_le_left ..))
  have ftake : ∀ (k : Nat) (h : k < ls.length), (ls.take (k + 1)).flatten = (ls.take k).flatten ++ ls[k] := fun k h => by
   rw [← List.take_append_getElem h, List.flatten_append]; simp
  rw [zHs]
  refine up (I := fun n v (a : Int) => zwg ls _ n a v) 0 ls.length rfl (Nat.zero_le _) (by omega) (fun k a => a = (((ls.take k).flatten).length : Int)) rfl fun n k a _ hk ha hn => ?_
  subst ha
  rw [zGs]
  have hf := flat k
  by_cases h : k < ls.length
  ·have hm := hr _ (List.getElem_mem h)
   rw [sel_lt h, at_nat (t := .list .lit) h, w64_eq (by omega) (by omega)]
   refine ⟨inb_nat h, df (by omega) (hn h _ ?_)⟩
   rw [ftake k h, List.length_append]; omega
  ·have hk' : k = ls.length := by omega
   subst hk'
   rw [sel_end]
   refine ⟨[], zKA _ (by omega), ?_⟩
   refine up (I := fun n v (a : List LitD) => zvg ls _ n v a) 0 ls.length rfl (Nat.zero_le _) (by omega) (fun k a => a = (ls.take k).flatten) rfl fun n k a _ hk ha hn => ?_
   subst ha
   rw [zFs]
   have hf := flat k
   by_cases h : k < ls.length
   ·have hm := hr _ (List.getElem_mem h)
    rw [sel_lt h, at_nat (t := .list .lit) h]
    refine ⟨inb_nat h, room_of (t := .lit) ?_, hn h _ (ftake k h).symm⟩
    show (_ + _) * 24 ≤ _
    omega
   ·have hk' : k = ls.length := by omega
    subst hk'
    rw [sel_end, List.take_length]
end Go.Proofs.YtajnbkhgnppckaaGreatDoor
/- What is learned: what the program's calls answer. -/
namespace Go.Proofs.YtajnbkhgnppckaaGreatDoor
open Go.RowKit
set_option linter.unusedVariables false
set_option linter.unusedSimpArgs false
theorem zyp {m : MdlD} (hr : Right m) (d : List LitD) : Sat Tryz.prog zYd [dM m, .sl .lit d] (dS (putS m d)) :=
 zsA m d fun ok => by
  have hl := (ok_list (t := .lit) (ok1 (okR ok))).1
  have hl : d.length * 24 ≤ 140737488355328 := hl
  rw [zrA]
  refine call1 (full_ok hr) ?_
  refine up (I := fun n v a => zsi d _ n a v) 0 d.length rfl (Nat.zero_le _) (by omega) (fun k a => a = (d.take k).foldl putL (fullS m)) rfl fun n k a _ hk ha hn => ?_
  subst ha
  rw [zqA]
  by_cases h : k < d.length
  ·rw [sel_lt h, at_nat (t := .lit) h]
   refine ⟨inb_nat h, call1 (zex _ _) (hn h _ ?_)⟩
   rw [← List.take_append_getElem h, List.foldl_append]; rfl
  ·have hk' : k = d.length := by omega
   subst hk'
   rw [sel_end, List.take_length]; rfl
theorem zzp {m : MdlD} {l : List (List LitD)} {d : List LitD} (hl : RightMC m l) (hll : l.length ≤ 1000000000) : Sat Tryz.prog zXd [dM m, .sl (.list .lit) l, .sl .lit d] (dB (failsB m l d)) :=
 zpA m l d fun ok => by
  rw [zoA]
  exact call1 (zyp hl.right d) (call1 (zOe hl (zAA hl.right) hll) (call1 (zv _) rfl))
theorem zAp {d : List LitD} (hd : d.length ≤ 1000000) (h : ∀ x ∈ d, -1000000 ≤ x.n ∧ x.n ≤ 1000000) : Sat Tryz.prog zTd [.sl .lit d] (.sl .lit (d.map oppL)) :=
 znA d fun ok => by
  rw [zmA]
  refine up (I := fun n v a => zqi d _ n v a) 0 d.length rfl (Nat.zero_le _) (by omega) (fun k a => a = (d.take k).map oppL) rfl fun n k a _ hk ha hn => ?_
  subst ha
  rw [zlA]
  by_cases hk2 : k < d.length
  ·rw [sel_lt hk2, at_nat (t := .lit) hk2]
   refine ⟨inb_nat hk2, call1 (zbx _ (h _ (List.getElem_mem hk2))) ⟨room_of (t := .lit) ?_, hn hk2 _ ?_⟩⟩
   ·rw [List.length_map, List.length_take]; show (_ + 1) * 24 ≤ _; omega
   ·rw [← List.take_append_getElem hk2, List.map_append]; rfl
  ·have hk' : k = d.length := by omega
   subst hk'
   rw [sel_end, List.take_length]
theorem zMA {m : MdlD} {l : List (List LitD)} {d : List LitD} (hl : RightMC m l) (hll : l.length ≤ 1000000000) (hd : d.length ≤ 1000000) : Sat Tryz.prog ztf [dM m, .sl (.list .lit) l, .sl .lit d] (.tup [.sl .lit (if failsB m l d = true then fewest m l d else []), dB (failsB m l d)]) :=
 ziA m l d fun ok => by
  rw [zhA]
  refine call1 (zzp hl hll) (za (fun e => ?_) fun e => ?_)
  ·have e : failsB m l d = false := by simpa using e
   rw [e]; rfl
  have e : failsB m l d = true := by simpa using e
  rw [if_pos e, e]
  refine ⟨d, zJA d, ?_⟩
  rw [fewest, fewL]
  suffices H : ∀ (k : Nat) (l' : List LitD) (i : Nat), l'.length ≤ k + i → i ≤ l'.length → l'.length ≤ 1000000 → ∀ r, r = fewF (failsB m l) k l' i → zRe m l (fun d => d = .tup [.sl .lit r, dB true]) (k + 1) l' (i : Int) from ⟨_, H d.length d 0 (Nat.le_refl _) (Nat.zero_le _) hd _ rfl⟩
  intro k
  induction k with
  | zero =>
   intro l' i h1 h2 h3 r hr
   have hi : i = l'.length := by omega
   subst hi
   rw [zip, sel_end, hr, fewF]
  | succ k ih =>
   intro l' i h1 h2 h3 r hr
   rw [zip]
   by_cases h : i < l'.length
   ·have hw : w64 ((i : Int) + 1) = ((i + 1 : Nat) : Int) := w64_up (by omega)
    rw [fewF, if_pos h] at hr
    have hel : (l'.eraseIdx i).length = l'.length - 1 := List.length_eraseIdx_of_lt h
    rw [sel_lt h, hw, Int.toNat_natCast, Int.toNat_natCast, Int.toNat_natCast, List.drop_zero, List.take_length]
    have hcat := zLA (ls := [l'.take i, l'.drop (i + 1)]) (by show 2 ≤ 1000; decide) fun x hx => by
     rcases List.mem_cons.1 hx with rfl | hx
     ·rw [List.length_take]; omega
     ·rw [List.mem_singleton.1 hx, List.length_drop]; omega
    have he : [l'.take i, l'.drop (i + 1)].flatten = l'.eraseIdx i := by rw [List.eraseIdx_eq_take_drop_succ]; simp
    rw [he] at hcat
    refine ⟨inSl_of (Int.le_refl _) (by omega) (by omega), inSl_of (by omega) (by omega) (Int.le_refl _), call1 hcat ?_⟩
    refine call1 (zzp hl hll) (za (fun e => ?_) fun e => ?_)
    ·rw [if_pos e] at hr
     exact ih _ i (by omega) (by omega) (by omega) r hr
    ·rw [if_neg (by rw [e]; decide)] at hr
     exact ih l' (i + 1) (by omega) (by omega) h3 r hr
   ·have hi : i = l'.length := by omega
    subst hi
    rw [fewF, if_neg (Nat.lt_irrefl _)] at hr
    rw [sel_end, hr]
end Go.Proofs.YtajnbkhgnppckaaGreatDoor
/- What is learned: the tracer, and the document's own calls. -/
namespace Go.Proofs.YtajnbkhgnppckaaGreatDoor
open Go.RowKit
set_option linter.unusedVariables false
set_option linter.unusedSimpArgs false
abbrev hpT (m : MdlD) (l : List (List LitD)) (p : TrS) : List (Nat × HObj) := [(1000, .cells [.sl .var m.vars, .sl .con m.cons, dI m.goal, dI m.var, .sl (.list .lit) l, dS p.2, .own 2000]), (2000, .row 71 .step p.1)]
theorem anyN {b : Bool} : sel (!b) (D.bool false = dB b) (D.bool true = dB b) := by cases b <;> rfl
theorem zNA : Ent Tryz.prog zhb := fun args w => Tryz.call117 args w
theorem zOA (s t : List (List Int)) : Sat Tryz.prog zyc [dS s, dS t, .clo zhb none []] (dB (decide (s = t))) :=
 Sat.clo (pre := [dS s, dS t]) (post := []) (rs := some [.bool]) <| zQl s t zhb [] fun ok => by
  rw [zPl]
  refine za (fun e => ?_) fun e => ?_
  ·have e : s.length ≠ t.length := by simp at e; omega
   rw [decide_eq_false fun h => e (by rw [h])]
  have e : s.length = t.length := by simp at e; omega
  have hz := zid s t e
  refine any0 (I := fun n v => zce s t zhb [] _ n v) (s.zip t) (fun x => !decide (x.1 = x.2)) ?_ (X := D.bool false = dB (decide (s = t))) (Y := D.bool true = dB (decide (s = t))) ?_ (fun n k h hX hn => ?_) fun n hY => ?_
  ·have := okLen (ok1 ok)
   rw [List.length_zip]
   have : s.length ≤ 9223372036854775807 := this
   omega
  ·rw [hz]; exact anyN
  ·rw [List.length_zip] at h
   have h1 : k < s.length := by omega
   have h2 : k < t.length := by omega
   rw [zCg, sel_lt h1, at_nat (t := .list .int) h1, at_nat (t := .list .int) h2]
   refine ⟨inb_nat h1, inb_nat h2, zNA, call1 (zAn _ _) ?_⟩
   rw [List.getElem_zip] at hX hn
   exact za (fun e => hX e) fun e => hn e
  ·have hl : (s.zip t).length = s.length := by rw [List.length_zip]; omega
   rw [hl, zCg, sel_end]; exact hY
theorem zPA {m : MdlD} {i : Int} {s x : List (List Int)} {v k : Nat} (h : k < (s.getD v []).length) : (((s.getD v []).take (k + 1)).filter fun n => !hasI (x.getD v []) n).map (goneStep m i s v) = (((s.getD v []).take k).filter fun n => !hasI (x.getD v []) n).map (goneStep m i s v) ++ if hasI (x.getD v []) (s.getD v [])[k] = true then [] else [goneStep m i s v (s.getD v [])[k]] := by
 rw [z8 _ h]
 cases hasI (x.getD v []) (s.getD v [])[k] <;> simp
theorem zQA {α : Type} {a b : List α} {x : α} : (!(a ++ (b ++ [x])).isEmpty) = true := by
 cases a <;> cases b <;> rfl
theorem zRA {m : MdlD} {l : List (List LitD)} {d : List LitD} {p : TrS} (h : Tr m l d p.1 p.2) (hk : LearnOk m l d) {i : Nat} (hi : i < m.cons.length) (hf : failS p.2 = false) :
  SatH Tryz.prog zWf [.ptr 1000 0, dI i] (hpT m l p) (dB (conT m i p).2) (hpT m l (conT m i p).1) := by
 obtain ⟨st, s⟩ := p
 have h : Tr m l d st s := h
 have hf : failS s = false := hf
 refine zyA m.vars m.cons m.goal m.var l s st i fun ok ok2 => ?_
 have hat := at_con hk hi
 have hr := h.filtR hk (i := (i : Int)) (by omega)
 have hs := ztb (zY hr.chk) hr.st
 have hl := hr.len
 have hsz := h.size
 have hsl : s.length ≤ 6 := by rw [hl]; exact hk.mc.right.vars
 rw [zxA]
 have hc : at' .con m.cons (i : Int).toNat = conAt m i := by rw [conAt, at_nat hi, Int.toNat_natCast, getD_at _ hi]
 rw [hc]
 refine ⟨inb_nat hi, call1 (zLe (c := conAt m i) (by rw [hl]; exact hr.right) (by rw [hl]; exact hs)) (call1 (zv _) (za (fun e => ?_) fun e => ?_))⟩
 ·have e : failS (filterS (conAt m i) s) = true := e
  refine call2 (t := .list .lit) (u := .bool) (zfA hr) ⟨room_of (t := .step) ?_, call1 (zWh _) ?_⟩
  ·show (st.length + 1) * 40 ≤ _; omega
  ·rw [conT, if_pos e]; exact ⟨rfl, rfl⟩
 ·have e : failS (filterS (conAt m i) s) = false := e
  have hcon : conT m i (st, s) = ((st ++ conSteps m i s (filterS (conAt m i) s) s.length, filterS (conAt m i) s), !(conSteps m i s (filterS (conAt m i) s) s.length).isEmpty) := by
   rw [conT, if_neg (by rw [e]; decide)]
  rw [hcon]
  have hxl : (filterS (conAt m i) s).length = s.length := (hr.op.len hl).trans hl.symm
  generalize filterS (conAt m i) s = x at e hxl hcon ⊢
  have hrow : ∀ k, (s.getD k []).length ≤ 6 := fun k => Nat.le_trans (h.le.2 k).length_le (zyd hk.mc.right k)
  have hlen : ∀ k, (conSteps m i s x k).length ≤ k * 6 := fun k => by
   induction k with
   | zero => exact Nat.le_refl _
   | succ k ih =>
    have h1 := List.length_filter_le (fun n => !hasI (x.getD k []) n) (s.getD k [])
    have h2 := hrow k
    rw [zhk, List.length_append, rowSteps, List.length_map]
    omega
  refine up (I := fun n v (a : Bool × List StepD) => zTe s i _ x n a.1 v m.vars m.cons m.goal m.var l s a.2) (a := (false, st)) 0 s.length rfl (Nat.zero_le _) (by omega) (fun k a => a = (!(conSteps m i s x k).isEmpty, st ++ conSteps m i s x k)) (by show _ = (!true, st ++ []); rw [List.append_nil]; rfl) fun n k a _ hkl ha hn => ?_
  subst ha
  show zTe _ _ _ _ _ (!(conSteps m i s x k).isEmpty) _ _ _ _ _ _ _ (st ++ conSteps m i s x k)
  rw [zwA]
  by_cases hks : k < s.length
  ·have hkx : k < x.length := by omega
   rw [sel_lt hks]
   refine ⟨inb_nat hks, ?_⟩
   have hg : s.getD k [] = s[k] := getD_at _ hks
   have hgx : x.getD k [] = x[k] := getD_at _ hkx
   have hrk := hrow k
   refine up (I := fun n v (a : Bool × List StepD) => zAd s i _ x _ k n a.1 v m.vars m.cons m.goal m.var l s a.2) (a := (!(conSteps m i s x k).isEmpty, st ++ conSteps m i s x k)) 0 (s.getD k []).length rfl (Nat.zero_le _) (by omega)
    (fun j a => a = (!(conSteps m i s x k ++ (((s.getD k []).take j).filter fun n => !hasI (x.getD k []) n).map (goneStep m i s k)).isEmpty, st ++ (conSteps m i s x k ++ (((s.getD k []).take j).filter fun n => !hasI (x.getD k []) n).map (goneStep m i s k)))) (by simp) fun n2 j a _ hjl ha hn2 => ?_
   subst ha
   show zAd _ _ _ _ _ _ _ (!(conSteps m i s x k ++ _).isEmpty) _ _ _ _ _ _ _ (st ++ (conSteps m i s x k ++ _))
   rw [zvA, at_nat (t := .list .int) hks, at_nat (t := .list .int) hkx, ← hg, ← hgx]
   by_cases hj : j < (s.getD k []).length
   ·rw [sel_lt hj, at_nat (t := .int) hj]
    refine ⟨inb_nat hj, inb_nat hkx, call1 (zoe (a := (s.getD k [])[j])) ?_⟩
    have ht := zPA (m := m) (i := (i : Int)) (x := x) hj
    show sel (hasI (x.getD k []) (s.getD k [])[j]) _ _
    refine za (fun f => ?_) fun f => ?_
    ·rw [if_pos f, List.append_nil] at ht
     exact hn2 hj (_, _) (by rw [ht]; rfl)
    ·rw [if_neg (by rw [f]; decide)] at ht
     refine call2 (t := .list .lit) (u := .bool) (zeA hr (by omega)) ⟨room_of (t := .step) ?_, ?_⟩
     ·have h1 := hlen k
      have h2 := List.length_filter_le (fun n => !hasI (x.getD k []) n) ((s.getD k []).take j)
      rw [List.length_take] at h2
      rw [List.length_append, List.length_append, List.length_map]
      show (_ + 1) * 40 ≤ _
      omega
     ·refine hn2 hj (_, _) ?_
      rw [ht, zQA, List.append_assoc st, List.append_assoc (conSteps m i s x k)]
      rfl
   ·have hj' : j = (s.getD k []).length := by omega
    subst hj'
    rw [sel_end, List.take_length]
    exact hn hks (_, _) (by rw [zhk]; rfl)
  ·have hk' : k = s.length := by omega
   subst hk'
   rw [sel_end]; exact ⟨rfl, rfl⟩
theorem zSA {m : MdlD} {l : List (List LitD)} {d : List LitD} (hk : LearnOk m l d) (hb : sizeS (putS m d) ≤ 36) :
  SatH Tryz.prog zIf [.ptr 1000 0] (hpT m l ([], putS m d)) (.tup []) (hpT m l (runT m l 37 ([], putS m d))) := by
 refine zuA m.vars m.cons m.goal m.var l (putS m d) [] fun ok ok2 => ?_
 rw [ztA]
 have hll := hk.len
 have hcl := hk.mc.right.cons
 suffices H : ∀ (k : Nat) (p : TrS), Tr m l d p.1 p.2 → sizeS p.2 ≤ k → ∀ q, q = runT m l (k + 1) p → zkb (fun d h1 => d = D.tup [] ∧ h1 = hpT m l q) (k + 2) true m.vars m.cons m.goal m.var l p.2 p.1 from ⟨_, H 36 _ (Tr.begin hk) hb _ rfl⟩
 intro k
 induction k using Nat.strongRecOn with
 | ind k ih =>
  intro p h hsz q hq
  have out : ∀ (n : Nat) (p : TrS), zkb (fun d h1 => d = D.tup [] ∧ h1 = hpT m l p) (n + 1) false m.vars m.cons m.goal m.var l p.2 p.1 := fun n p => by
   rw [zmp]; exact ⟨rfl, rfl⟩
  rw [zmp]
  refine call1 (zv _) (za (fun f => ?_) fun f => ?_)
  ·have f : failS p.2 = false := by simpa using f
   rw [runT, if_neg (by rw [f]; decide)] at hq
   obtain ⟨j1, j2, j3⟩ := zok h hk f
   have hpos := zjk (by rw [h.len]; exact hk.mc.pos) f
   have fin : ∀ (r : TrS × Bool), Tr m l d r.1.1 r.1.2 → r = consT m m.cons.length 0 p false →
     Call1 Tryz.prog zmb [.agg [.sl .var m.vars, .sl .con m.cons, dI m.goal, dI m.var], dS r.1.2, dB false, .sl (.list .lit) l] (.list (.list .int)) fun f23 =>
      Call1 Tryz.prog zyc [dS f23, dS r.1.2, .clo zhb none []] .bool fun s24 =>
       sel (!s24) (zkb (fun d h1 => d = D.tup [] ∧ h1 = hpT m l q) (k + 1) true m.vars m.cons m.goal m.var l f23 r.1.1)
        (zkb (fun d h1 => d = D.tup [] ∧ h1 = hpT m l q) (k + 1) r.2 m.vars m.cons m.goal m.var l f23 r.1.1) := fun r hr e => by
    have hrd : roundT m l p = ((r.1.1, runS m false l r.1.2), if runS m false l r.1.2 = r.1.2 then r.2 else true) := by rw [roundT, ← e]
    refine call1 (zOe hk.mc (ztb hk.mc.right hr.store) (by omega)) (call1 (zOA _ _) ?_)
    have nxt : (roundT m l p).2 = true → zkb (fun d h1 => d = D.tup [] ∧ h1 = hpT m l q) (k + 1) true m.vars m.cons m.goal m.var l (runS m false l r.1.2) r.1.1 := fun e2 => by
     rw [if_pos e2] at hq
     have := j2 e2
     match k, ih, hsz, hq with
     | 0, ih, hsz, hq => omega
     | k + 1, ih, hsz, hq =>
      have := ih k (by omega) (roundT m l p).1 j1 (by omega) q hq
      rw [hrd] at this
      exact this
    refine za (fun g => ?_) fun g => ?_
    ·have g : runS m false l r.1.2 ≠ r.1.2 := by simpa using g
     exact nxt (by rw [hrd]; exact if_neg g)
    ·have g : runS m false l r.1.2 = r.1.2 := by simpa using g
     have g2 : (roundT m l p).2 = r.2 := by rw [hrd]; exact if_pos g
     cases e2 : r.2
     ·rw [g2, e2, if_neg (by decide)] at hq
      have := out k q
      rw [hq, hrd] at this
      rw [hq, hrd]
      exact this
     ·exact nxt (g2.trans e2)
   suffices H2 : ∀ (j i : Nat) (p2 : TrS) (c : Bool), i + j = m.cons.length → Tr m l d p2.1 p2.2 → consT m j i p2 c = consT m m.cons.length 0 p false → zSe (fun d h1 => d = D.tup [] ∧ h1 = hpT m l q) (k + 1) (j + 1) c (i : Int) m.vars m.cons m.goal m.var l p2.2 p2.1 from ⟨_, H2 m.cons.length 0 p false (Nat.zero_add _) h rfl⟩
   intro j
   induction j with
   | zero =>
    intro i p2 c hij h2 he
    have hi : i = m.cons.length := by omega
    subst hi
    rw [zlp, sel_end]
    exact fin (p2, c) h2 he
   | succ j ihj =>
    intro i p2 c hij h2 he
    have hi : i < m.cons.length := by omega
    rw [zlp, sel_lt hi]
    refine call1 (zv _) (za (fun g => ?_) fun g => ?_)
    ·have g : failS p2.2 = false := by simpa using g
     rw [consT, if_neg (by rw [g]; decide)] at he
     obtain ⟨t1, t2, t3⟩ := zmk h2 hk hi g
     refine ⟨_, _, _, zRA h2 hk hi g, ?_⟩
     have hw : w64 ((i : Int) + 1) = ((i + 1 : Nat) : Int) := w64_up (by omega)
     rw [hw]
     refine za (fun e => ?_) fun e => ?_
     ·rw [e] at he; exact ihj (i + 1) _ true (by omega) t1 he
     ·rw [e] at he; exact ihj (i + 1) _ c (by omega) t1 he
    ·have g : failS p2.2 = true := by simpa using g
     rw [consT, if_pos g] at he
     exact fin (p2, c) h2 he
  ·have f : failS p.2 = true := by simpa using f
   rw [runT, if_pos f] at hq
   rw [hq]; exact ⟨rfl, rfl⟩
theorem zTA {m : MdlD} {l : List (List LitD)} {d : List LitD} (hk : LearnOk m l d) : Sat Tryz.prog zvf [dM m, .sl (.list .lit) l, .sl .lit d] (.sl .step (traceS m l d)) :=
 zkA m l d fun ok => by
  rw [zjA]
  have hb := Tr.begin hk
  have hsz : sizeS (putS m d) ≤ 36 := by have := hb.size; simpa using this
  have hr : (runT m l 37 ([], putS m d)).1.length + sizeS (runT m l 37 ([], putS m d)).2 ≤ 36 := (zvi hk 36 ([], putS m d) hb hsz).1.size
  refine call1 (zyp hk.mc.right d) ⟨_, _, zSA hk hsz, call1 (zAp (by have := hk.dl; omega) hk.near) ⟨room_of (t := .step) ?_, rfl⟩⟩
  show (_ + 1) * 40 ≤ _
  omega
end Go.Proofs.YtajnbkhgnppckaaGreatDoor
/- What is learned: the three laws. -/
namespace Go.Proofs.YtajnbkhgnppckaaGreatDoor
open Go.RowKit
set_option linter.unusedVariables false
set_option linter.unusedSimpArgs false
end Go.Proofs.YtajnbkhgnppckaaGreatDoor
