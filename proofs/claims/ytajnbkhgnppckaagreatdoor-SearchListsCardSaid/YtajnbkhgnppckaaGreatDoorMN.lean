/- Texts of this proof, one behind the other: nothing is handed in but what is proved here; no condition. -/
import Derived.Test.YtajnbkhgnppckaaGreatDoorML
import Derived.Test.YtajnbkhgnppckaaGreatDoorMK
import Derived.Test.YtajnbkhgnppckaaGreatDoorWSearch
import Derived.Test.YtajnbkhgnppckaaGreatDoorWBest
import Derived.Test.YtajnbkhgnppckaaGreatDoorWCordonlaw
import Derived.Test.YtajnbkhgnppckaaGreatDoorWCordonref
/- Searches: what the program's calls do. -/
namespace Go.Proofs.YtajnbkhgnppckaaGreatDoor
open Go.RowKit
set_option linter.unusedVariables false
set_option linter.unusedSimpArgs false
abbrev hpS (m : MdlD) (g l : List (List LitD)) (fuel : Int) (p : NoteS) : List (Nat × HObj) := [(1000, .cells [.sl .var m.vars, .sl .con m.cons, dI m.goal, dI m.var, .sl (.list .lit) g, dI fuel, .own 2000, .own 2001, .own 1001]), (2000, .row 47 (.list .lit) l), (2001, .row 71 .step p.1), (1001, .mp .str .int p.2)]
def LitI (x : LitD) : Prop := inI64 x.var ∧ inI64 x.op ∧ inI64 x.n
theorem litI_of {nv : Nat} {x : LitD} (hn : nv ≤ 6) (h : litE nv x = 0) : LitI x := by
 obtain ⟨h1, h2, h3⟩ := zO.1 h
 exact ⟨by unfold inI64; omega, by unfold inI64; omega, by unfold inI64; omega⟩
theorem zvy (c : List LitD) (x : LitD) : keyC (c ++ [x]) = keyC c ++ litK x := by rw [keyC, List.foldl_append]; rfl
theorem zwy : ∀ {c : List LitD}, (∀ x ∈ c, LitI x) → (keyC c).size ≤ c.length * 66 := fun {c} => by
 suffices H : ∀ (c : List LitD) (o : ByteArray), (∀ x ∈ c, LitI x) → (c.foldl (fun o x => o ++ litK x) o).size ≤ o.size + c.length * 66 from fun h => by
  have := H c ⟨#[]⟩ h
  rw [keyC]
  have e : (⟨#[]⟩ : ByteArray).size = 0 := rfl
  omega
 intro c
 induction c with
 | nil => exact fun o _ => by simp
 | cons x c ih =>
  intro o h
  have h1 := ih (o ++ litK x) fun y hy => h y (List.mem_cons_of_mem _ hy)
  obtain ⟨a, b, d⟩ := h x (List.mem_cons_self ..)
  have h2 := zWx a b d
  rw [ByteArray.size_append] at h1
  rw [List.foldl_cons, List.length_cons]
  omega
theorem zxy {c : List LitD} (hl : c.length ≤ 1000000) (hr : ∀ x ∈ c, LitI x) : Sat Tryz.prog zDe [.sl .lit c] (.str (keyC c)) :=
 zuy c fun ok => by
  rw [zty]
  refine up (I := fun n v a => zbh c _ n a v) 0 c.length rfl (Nat.zero_le _) (by omega) (fun k a => a = keyC (c.take k)) rfl fun n k a _ hk ha hn => ?_
  subst ha
  rw [zsy]
  by_cases h : k < c.length
  ·rw [sel_lt h, at_nat (t := .lit) h]
   obtain ⟨h1, h2, h3⟩ := hr _ (List.getElem_mem h)
   have s1 := zfc h1; have s2 := zfc h2; have s3 := zfc h3
   have s0 := zwy (c := c.take k) fun x hx => hr x (List.mem_of_mem_take hx)
   rw [List.length_take] at s0
   have z58 : (⟨#[58]⟩ : ByteArray).size = 1 := rfl
   have z32 : (⟨#[32]⟩ : ByteArray).size = 1 := rfl
   refine ⟨inb_nat h, call1 (t := .str) (itoa_ok h1) ⟨by omega, call1 (t := .str) (itoa_ok h2) ⟨?_, ?_, call1 (t := .str) (itoa_ok h3) ⟨?_, ?_, ?_, ?_⟩⟩⟩⟩
   ·rw [ByteArray.size_append]; omega
   ·simp only [ByteArray.size_append]; omega
   ·simp only [ByteArray.size_append]; omega
   ·simp only [ByteArray.size_append]; omega
   ·simp only [ByteArray.size_append]; omega
   ·refine hn h _ ?_
    rw [← List.take_append_getElem h, zvy]; rfl
  ·have hk' : k = c.length := by omega
   subst hk'
   rw [sel_end, List.take_length]
theorem z8n (s : List (List Int)) : Sat Tryz.prog z9c [dS s] (dI (openI s)) :=
 zny s fun ok => by
  rw [zmy]
  refine seek (t := .list .int) (p := fun r : List Int => decide (1 < r.length)) (R := fun d => d = dI (openI s)) (okLen (t := .list .int) (ok1 ok)) rfl (fun n k h h1 h2 => ?_) fun n hR => ?_
  ·rw [z5n, sel_lt h, at_nat (t := .list .int) h]
   refine ⟨inb_nat h, za (fun e => h1 ?_) fun e => h2 ?_⟩
   ·have e : (1 : Int) < (s[k].length : Int) := of_decide_eq_true e
    exact decide_eq_true (by omega)
   ·have e : ¬(1 : Int) < (s[k].length : Int) := of_decide_eq_false e
    exact decide_eq_false (by omega)
  ·rw [z5n, sel_end]; exact hR
theorem z2i {m : MdlD} {g l : List (List LitD)} {fuel : Int} {p : NoteS} (hg : g.length ≤ 1000000) (hl : l.length ≤ 1000000) : SatH Tryz.prog zrc [.ptr 1000 0] (hpS m g l fuel p) (.sl (.list .lit) (g ++ l)) (hpS m g l fuel p) :=
 ziy m.vars m.cons m.goal m.var g fuel l p.1 p.2 fun ok ok2 => by
  rw [zhy]
  simp only [dup2_eq, dup3_eq, and_self, -eq_self]
  refine ⟨room_of (t := .list .lit) ?_, room_of (t := .list .lit) ?_, rfl, rfl⟩
  ·show (0 + g.length) * 24 ≤ _; omega
  ·rw [List.nil_append]; show (g.length + l.length) * 24 ≤ _; omega
theorem zyy {m : MdlD} {g l : List (List LitD)} {fuel : Int} {p : NoteS} : SatH Tryz.prog zoe [.ptr 1000 0] (hpS m g l fuel p) (.tup [.sl .step p.1, dB (decide ((p.1.length : Int) ≤ 6000))]) [(1000, .cells [.sl .var m.vars, .sl .con m.cons, dI m.goal, dI m.var, .sl (.list .lit) g, dI fuel, .own 2000, .sl .step p.1, .own 1001]), (2000, .row 47 (.list .lit) l), (1001, .mp .str .int p.2)] :=
 z8x m.vars m.cons m.goal m.var g fuel l p.1 p.2 fun ok ok2 => by
  rw [z7x]
  exact ⟨rfl, rfl⟩
theorem zzy (m : MdlD) (fuel : Int) : SatH Tryz.prog zme [dM m, dI fuel] [] (.ptr 3000 0) [(3000, .cells [.sl .var m.vars, .sl .con m.cons, dI m.goal, dI m.var, .sl (.list .lit) [], dI fuel, .nil, .nil, .own 3001]), (3001, .mp .str .int [])] :=
 z4x m fuel fun ok ok2 => by
  rw [z3x]
  exact ⟨rfl, rfl⟩
theorem z9n {p : NoteS} {st : StepD} : (note1 p st).1.length ≤ p.1.length + 1 ∧ (note1 p st).2.length ≤ p.2.length + 1 := by
 unfold note1
 split
 ·refine ⟨by simp, ?_⟩
  show (mput .str .int (keyC st.clause) 1 p.2).length ≤ _
  generalize p.2 = es
  induction es with
  | nil => exact Nat.le_refl _
  | cons e es ih =>
   obtain ⟨a, b⟩ := e
   show (bif keq .str (keyC st.clause) a then (a, (1 : Int)) :: es else (a, b) :: mput .str .int (keyC st.clause) 1 es).length ≤ _
   cases keq .str (keyC st.clause) a
   ·rw [cond_false, List.length_cons, List.length_cons]; omega
   ·rw [cond_true, List.length_cons, List.length_cons]; omega
 ·omega
theorem zao : ∀ (t : List StepD) (p : NoteS), (noteS t p).1.length ≤ p.1.length + t.length ∧ (noteS t p).2.length ≤ p.2.length + t.length
 | [], p => ⟨Nat.le_refl _, Nat.le_refl _⟩
 | st :: t, p => by
  have h1 := z9n (p := p) (st := st)
  have h2 := zao t (note1 p st)
  show (noteS t (note1 p st)).1.length ≤ _ ∧ (noteS t (note1 p st)).2.length ≤ _
  rw [List.length_cons]; omega
theorem zAy {m : MdlD} {g l : List (List LitD)} {fuel : Int} {p : NoteS} {t : List StepD} (h1 : p.1.length ≤ 1000000) (h2 : p.2.length ≤ 1000000) (ht : t.length ≤ 1000000) (hc : ∀ st ∈ t, st.clause.length ≤ 1000000 ∧ ∀ x ∈ st.clause, LitI x) :
  SatH Tryz.prog zte [.ptr 1000 0, .sl .step t] (hpS m g l fuel p) (.tup []) (hpS m g l fuel (noteS t p)) :=
 zly m.vars m.cons m.goal m.var g fuel l p.1 p.2 t fun ok ok2 => by
  rw [zky]
  refine up (I := fun n v (a : NoteS) => zUc t _ n v m.vars m.cons m.goal m.var g fuel a.2 l a.1) (a := p) 0 t.length rfl (Nat.zero_le _) (by omega) (fun k a => a = noteS (t.take k) p) rfl fun n k a _ hk ha hn => ?_
  subst ha
  show zUc t _ _ _ _ _ _ _ _ _ (noteS (t.take k) p).2 _ (noteS (t.take k) p).1
  rw [zjy]
  by_cases h : k < t.length
  ·rw [sel_lt h, at_nat (t := .step) h]
   obtain ⟨c1, c2⟩ := hc _ (List.getElem_mem h)
   have hs : noteS (t.take (k + 1)) p = note1 (noteS (t.take k) p) t[k] := by
    rw [← List.take_append_getElem h]; exact List.foldl_append ..
   obtain ⟨n1, n2⟩ := zao (t.take k) p
   rw [List.length_take] at n1 n2
   refine ⟨inb_nat h, call1 (t := .str) (zxy c1 c2) (za (fun e => ?_) fun e => ?_)⟩
   ·have e : metK t[k].clause (noteS (t.take k) p).2 = 0 := of_decide_eq_true e
    refine ⟨decide_eq_true (by omega), room_of (t := .step) (by show ((noteS (t.take k) p).1.length + 1) * 40 ≤ _; omega), hn h (_, _) ?_⟩
    rw [hs, note1, if_pos e]
   ·have e : ¬metK t[k].clause (noteS (t.take k) p).2 = 0 := of_decide_eq_false e
    refine hn h _ ?_
    rw [hs, note1, if_neg e]
  ·have hk' : k = t.length := by omega
   subst hk'
   rw [sel_end, List.take_length]
   exact ⟨rfl, rfl⟩
end Go.Proofs.YtajnbkhgnppckaaGreatDoor
/- Searches: the way down, the rounds, and what is answered. -/
namespace Go.Proofs.YtajnbkhgnppckaaGreatDoor
open Go.RowKit
set_option linter.unusedVariables false
set_option linter.unusedSimpArgs false
theorem zbo {s : List (List Int)} {k : Nat} (h : k < s.length) : valsS (s.take (k + 1)) = valsS (s.take k) ++ [s[k].getD 0 0] := by
 rw [valsS, ← List.take_append_getElem h, List.map_append]; rfl
theorem zBy (s : List (List Int)) (v n : Int) (x : LitD) (hx : x.n = n) : Sat Tryz.prog zu [dS s, .clo zAe none [.iptr [dI v] 0, .iptr (cells .lit x) 0]] (dS (keep1 s v n)) :=
 zEc (f := fun w k => !decide ((w : Int) = v) || decide (k = n)) zdt fun w hw k hk => zry w k v x fun ok => by
  rw [zqy]
  refine za (fun e => ?_) fun e => ?_
  ·rw [e]; rfl
  ·rw [e, Bool.false_or, hx]
theorem zCy {m : MdlD} {g l : List (List LitD)} {fuel : Int} {p : NoteS} (hmc : RightMC m (g ++ l)) (hg : g.length ≤ 1000000) (hl : l.length ≤ 1000000) :
  SatH Tryz.prog zre [.ptr 1000 0] (hpS m g l fuel p) (.tup [.slN .lit (downS m (g ++ l)).1 (downS m (g ++ l)).2.1, .sl .int (downS m (g ++ l)).2.2]) (hpS m g l fuel p) :=
 zgy m.vars m.cons m.goal m.var g fuel l p.1 p.2 fun ok ok2 => by
  rw [zfy]
  have hr := hmc.right
  have hv := hr.vars
  refine ⟨_, z2i hg hl, call1 (full_ok hr) (call1 (zKd hmc (zpb hr zPc) (by rw [List.length_append]; omega)) ?_)⟩
  generalize hL : g ++ l = L at hmc ⊢
  suffices H : ∀ (k : Nat) (d : List LitD), WayR m L d → m.vars.length + 1 ≤ k + d.length → ∀ r, r = downF m L k (fixD m L d) d →
    z8g p.2 (fun d h1 => d = .tup [.slN .lit r.1 r.2.1, .sl .int r.2.2] ∧ h1 = hpS m g l fuel p) L k (fixD m L d) d m.vars m.cons m.goal m.var g fuel l p.1 from ⟨_, H (m.vars.length + 1) [] .nil (by simp) _ rfl⟩
  intro k
  induction k with
  | zero => exact fun d hc hk => absurd hc.len (by omega)
  | succ k ih =>
   intro d hc hk r hr'
   rw [zey]
   simp only [dup2_eq, dup3_eq, and_self, -eq_self]
   rw [downF] at hr'
   have hlen : (fixD m L d).length = m.vars.length := zSc hmc
   refine call1 (zq _) (za (fun e => ?_) fun e => ?_)
   ·have hf : failS (fixD m L d) = false := by simpa using e
    rw [if_neg (by rw [hf]; decide)] at hr'
    refine call1 (z8n _) ?_
    rcases zOi (fixD m L d) with ⟨eo, h1⟩ | ⟨v, eo, hv', h1, h2⟩
    ·rw [if_pos (by omega)] at hr'
     rw [decide_eq_true (show openI (fixD m L d) < 0 by omega), hr']
     have hne := zx.1 hf
     refine up (I := fun n v a => z7g p.2 _ k (fixD m L d) m.vars m.cons m.goal m.var g fuel n v a l p.1) (a := []) 0 (fixD m L d).length rfl (Nat.zero_le _) (by omega) (fun k a => a = valsS ((fixD m L d).take k)) rfl fun n j a _ hj ha hn => ?_
     subst ha
     rw [zdy]
     by_cases h : j < (fixD m L d).length
     ·have hrow : 0 < (fixD m L d)[j].length := List.length_pos_iff.2 (by have := hne j h; rwa [getD_at _ h] at this)
      rw [sel_lt h, at_nat (t := .list .int) h]
      refine ⟨inb_nat h, inb_nat (k := 0) hrow, room_of (t := .int) ?_, hn h _ ?_⟩
      ·rw [valsS, List.length_map, List.length_take]; show (_ + 1) * 8 ≤ _; omega
      ·rw [zbo h]; rfl
     ·have hj' : j = (fixD m L d).length := by omega
      subst hj'
      rw [sel_end, List.take_length]
      exact ⟨rfl, rfl⟩
    ·rw [if_neg (by omega), eo, Int.toNat_natCast, z0g hmc hf] at hr'
     rw [eo, decide_eq_false (show ¬(v : Int) < 0 by omega)]
     have hvn : v < m.vars.length := by omega
     have hc' := hc.step hmc hf hvn eo h1 h2
     have e1 : at' (.list .int) (fixD m L d) (v : Int).toNat = (fixD m L d).getD v [] := by rw [at_nat hv', getD_at _ hv']
     have e2 : at' .int ((fixD m L d).getD v []) 0 = ((fixD m L d).getD v []).getD 0 0 := rfl
     rw [e1, e2]
     refine ⟨inb_nat hv', inb_nat (k := 0) (by omega), room_of (t := .lit) ?_, call1 (zBy _ _ _ ⟨v, 3, ((fixD m L d).getD v []).getD 0 0⟩ rfl) (call1 (zKd hmc ?_ (by rw [← hL, List.length_append]; omega)) ?_)⟩
     ·have := hc.len
      show (d.length + 1) * 24 ≤ _; omega
     ·exact zpb hr (zHd zPc (zmb.trans (zdc hmc)))
     ·rw [z0g hmc hf]
      exact ih _ hc' (by rw [List.length_append, List.length_singleton]; omega) r hr'
   ·have hf : failS (fixD m L d) = true := by simpa using e
    rw [if_pos hf] at hr'
    rw [hr']
    exact ⟨rfl, rfl⟩
structure Fit (m : MdlD) (g l : List (List LitD)) (k : Nat) (p : NoteS) : Prop where
 sea : Sea m g l p
 fuel : l.length + k ≤ 300
 steps : p.1.length ≤ 6000
 met : p.2.length ≤ p.1.length
theorem zDy {p : NoteS} {st : StepD} (h : p.2.length ≤ p.1.length) : (note1 p st).2.length ≤ (note1 p st).1.length := by
 have h1 := (z9n (p := p) (st := st)).2
 by_cases e : metK st.clause p.2 = 0
 ·have h2 : (note1 p st).1.length = p.1.length + 1 := by rw [note1, if_pos e]; simp
  omega
 ·rw [note1, if_neg e]; exact h
theorem zco : ∀ (t : List StepD) (p : NoteS), p.2.length ≤ p.1.length → (noteS t p).2.length ≤ (noteS t p).1.length
 | [], p, h => h
 | st :: t, p, h => zco t (note1 p st) (zDy h)
theorem zEy {m : MdlD} {g l : List (List LitD)} {k : Nat} {p : NoteS} (h : Fit m g l k p) :
  SatH Tryz.prog zne [.ptr 1000 0] (hpS m g l (k : Int) p) (.tup [.sl .int (goS m k g l p).vals, dI (goS m k g l p).verdict]) (hpS m g (goS m k g l p).learned ((goS m k g l p).fuel : Int) (goS m k g l p).note) :=
 z6x m.vars m.cons m.goal m.var g (k : Int) l p.1 p.2 fun ok ok2 => by
  rw [z5x]
  suffices H : ∀ (k : Nat) (l : List (List LitD)) (p : NoteS), Fit m g l k p → ∀ r, r = goS m k g l p →
    z5g (fun d h1 => d = .tup [.sl .int r.vals, dI r.verdict] ∧ h1 = hpS m g r.learned (r.fuel : Int) r.note) (k + 1) m.vars m.cons m.goal m.var g (k : Int) p.2 l p.1 from ⟨_, H k l p h _ rfl⟩
  intro k
  induction k with
  | zero =>
   intro l p h r hr
   rw [z2n, hr]
   exact ⟨rfl, rfl⟩
  | succ k ih =>
   intro l p h r hr
   have hs := h.sea
   have hf := h.fuel
   have hp := h.steps
   have hm2 := h.met
   have hgl := hs.glen
   have hmc := hs.mc
   have hw : w64 (((k + 1 : Nat) : Int) - 1) = (k : Int) := by rw [w64_eq (by omega) (by omega)]; omega
   rw [z2n, hw]
   simp only [dup2_eq, dup3_eq, and_self, -eq_self]
   rw [goS] at hr
   rw [decide_eq_false (show ¬((k + 1 : Nat) : Int) = 0 by omega)]
   refine ⟨_, _, _, zCy hmc (by omega) (by omega), za (fun hd => ?_) fun hd => ?_⟩
   ·rw [if_pos hd] at hr
    rw [hr]; exact ⟨rfl, rfl⟩
   ·rw [if_neg (by rw [hd]; decide)] at hr
    obtain ⟨q1, q2, q3, q4, q5⟩ := zVn hs (by omega) hd
    have hkf : LearnOk m (g ++ l) (fewD m (g ++ l)) := q1.sub zXg
    have hff : failsB m (g ++ l) (fewD m (g ++ l)) = true := znn q2
    have ht := zvn hkf hff
    have hgl2 : (g ++ l).length ≤ 1000000000 := by rw [List.length_append]; omega
    have hdl := q1.dl
    have hfew := znx hmc hgl2 (show (downS m (g ++ l)).1.length ≤ 1000000 by omega)
    rw [if_pos q2] at hfew
    have hnv := hmc.right.vars
    have hsz := ztn hmc.right
    refine ⟨_, z2i (by omega) (by omega), call2 (t := .list .lit) (u := .bool) hfew ⟨_, z2i (by omega) (by omega), call1 (t := .list .step) (zux hkf) ⟨_, _, zAy (by omega) (by omega) (show (traceS m (g ++ l) (fewD m (g ++ l))).length ≤ 1000000 by have := ht.len; omega) (fun st hst => ?_), ?_⟩⟩⟩
    ·obtain ⟨c1, c2⟩ := z4h (ht.cl st hst)
     exact ⟨by omega, fun x hx => litI_of hnv (c2 x hx)⟩
    ·have e0 : noteS (traceS m (g ++ l) (fewest m (g ++ l) (downS m (g ++ l)).1)) p = roundN m (g ++ l) p := rfl
     have e1 : fewest m (g ++ l) (downS m (g ++ l)).1 = fewD m (g ++ l) := rfl
     rw [e0, e1]
     by_cases hf0 : fewD m (g ++ l) = []
     ·rw [if_pos hf0] at hr
      rw [hf0, decide_eq_true (show (([] : List LitD).length : Int) = 0 from rfl), hr]
      exact ⟨rfl, rfl⟩
     ·rw [if_neg hf0] at hr
      have hl0 : (fewD m (g ++ l)).length ≠ 0 := fun e => hf0 (List.length_eq_zero_iff.1 e)
      rw [decide_eq_false (show ¬((fewD m (g ++ l)).length : Int) = 0 by omega)]
      have hfl := hkf.dl
      refine call1 (t := .list .lit) (zyn (by omega) hkf.near) ⟨room_of (t := .list .lit) (by show (l.length + 1) * 24 ≤ _; omega), ?_⟩
      have e2 : (l ++ [(fewD m (g ++ l)).map oppL]).length = l.length + 1 := by simp
      refine za (fun e => ?_) fun e => za (fun e' => ?_) fun e' => ?_
      ·have e : (600 : Int) < ((l ++ [(fewD m (g ++ l)).map oppL]).length : Int) := of_decide_eq_true e
       rw [if_pos (.inl (by omega))] at hr
       rw [hr]; exact ⟨rfl, rfl⟩
      ·have e' : (6000 : Int) < ((roundN m (g ++ l) p).1.length : Int) := of_decide_eq_true e'
       rw [if_pos (.inr (by omega))] at hr
       rw [hr]; exact ⟨rfl, rfl⟩
      ·have e : ¬(600 : Int) < ((l ++ [(fewD m (g ++ l)).map oppL]).length : Int) := of_decide_eq_false e
       have e' : ¬(6000 : Int) < ((roundN m (g ++ l) p).1.length : Int) := of_decide_eq_false e'
       rw [if_neg (by omega)] at hr
       exact ih _ (roundN m (g ++ l) p) ⟨(q5 hf0).1, by omega, by omega, zco _ _ hm2⟩ r hr
def readyS (m : MdlD) (fuel : Int) : Int := or0 (checkM m) (if fuel < 0 ∨ 300 < fuel then 3 else 0)
theorem zFy (m : MdlD) (fuel : Int) : Sat Tryz.prog zle [dM m, dI fuel] (dI (readyS m fuel)) :=
 z2x m fuel fun ok => by
  rw [z1x]
  refine call1 (zel m) (za (fun e => ?_) fun e => ?_)
  ·rw [readyS, or0_ne (zxb e)]
  ·rw [readyS, or0_eq (z0b e)]
   refine za (fun f => ?_) fun f => za (fun f' => ?_) fun f' => ?_
   ·rw [if_pos (.inl (of_decide_eq_true f))]
   ·rw [if_pos (.inr (of_decide_eq_true f'))]
   ·have f := of_decide_eq_false f
    have f' := of_decide_eq_false f'
    rw [if_neg (by omega)]
theorem zGy {m : MdlD} {fuel : Int} (h : readyS m fuel = 0) : checkM m = 0 ∧ 0 ≤ fuel ∧ fuel ≤ 300 := by
 obtain ⟨h1, h2⟩ := zuw h
 refine ⟨h1, ?_⟩
 split at h2
 ·cases h2
 ·omega
theorem zHy {m : MdlD} (h : checkM m = 0) {k : Nat} (hk : k ≤ 300) : Fit m [] [] k ([], []) := ⟨.begin h, by simpa using hk, Nat.zero_le _, Nat.le_refl _⟩
noncomputable def solveA (m : MdlD) (fuel : Int) : AnsD := if readyS m fuel = 0 then solveS m fuel.toNat else ⟨0, [], []⟩
theorem zIy (m : MdlD) (fuel : Int) : Sat Tryz.prog z2c [dM m, dI fuel] (.tup [toD .ans (solveA m fuel), dI (readyS m fuel)]) :=
 zYx m fuel fun ok => by
  rw [zXx, solveA]
  refine call1 (zFy m fuel) (za (fun e => ?_) fun e => ?_)
  ·rw [if_neg (zxb e)]; rfl
  ·have e := z0b e
   obtain ⟨h1, h2, h3⟩ := zGy e
   obtain ⟨k, rfl⟩ : ∃ k : Nat, fuel = (k : Int) := ⟨fuel.toNat, by omega⟩
   rw [if_pos e, Int.toNat_natCast, e, solveS]
   have hgo := zEy (zHy h1 (k := k) (by omega))
   have hx := zXn k [] ([], []) (Sea.begin h1) (by simpa using (show k ≤ 300 by omega))
   refine ⟨m, _, zzy m k, _, _, _, _, _, _, hgo, ?_⟩
   generalize goS m k [] [] ([], []) = r at hx ⊢
   refine za (fun f => ?_) fun f => ?_
   ·have f : r.verdict = 2 := of_decide_eq_true f
    rw [if_pos f]
    refine ⟨_, _, zyy (p := r.note), za (fun q => ?_) fun q => ?_⟩
    ·have q : ¬(r.note.1.length : Int) ≤ 6000 := by simpa using q
     rw [if_pos (by omega)]; rfl
    ·have q : (r.note.1.length : Int) ≤ 6000 := by simpa using q
     rw [if_neg (by omega), f]; rfl
   ·have f : ¬r.verdict = 2 := of_decide_eq_false f
    rw [if_neg f]; rfl
end Go.Proofs.YtajnbkhgnppckaaGreatDoor
/- The best: what the program's calls do. -/
namespace Go.Proofs.YtajnbkhgnppckaaGreatDoor
open Go.RowKit
set_option linter.unusedVariables false
set_option linter.unusedSimpArgs false
end Go.Proofs.YtajnbkhgnppckaaGreatDoor
/- The laws of the best. -/
namespace Go.Proofs.YtajnbkhgnppckaaGreatDoor
open Go.RowKit
set_option linter.unusedVariables false
set_option linter.unusedSimpArgs false
theorem zJy : runS twoM true [] (fullS twoM) = [[0, 1], [1, 2]] := runS_B (cons := true) two_mc zd 1 (by kernel_rfl) (by kernel_rfl) (by kernel_rfl)
theorem zKy : runS twoM true [] (keep1 [[0, 1], [1, 2]] 0 0) = [[0], [1, 2]] := runS_B (cons := true) two_mc (by kernel_rfl) 1 (by kernel_rfl) (by kernel_rfl) (by kernel_rfl)
theorem zLy : runS twoM true [] (keep1 [[0], [1, 2]] 1 1) = [[0], [1]] := runS_B (cons := true) two_mc (by kernel_rfl) 1 (by kernel_rfl) (by kernel_rfl) (by kernel_rfl)
theorem zMy : downS twoM ([] ++ []) = ([], true, [0, 1]) := by
 show downF twoM [] 3 (runS twoM true [] (fullS twoM)) [] = _
 rw [zJy, downF, if_neg (by decide), if_neg (by decide)]
 show downF twoM [] 2 (runS twoM true [] (keep1 [[0, 1], [1, 2]] 0 0)) _ = _
 rw [zKy, downF, if_neg (by decide), if_neg (by decide)]
 show downF twoM [] 1 (runS twoM true [] (keep1 [[0], [1, 2]] 1 1)) _ = _
 rw [zLy, downF, if_neg (by decide), if_pos (by decide)]
 rfl
theorem two_go {k : Nat} : goS twoM (k + 1) [] [] ([], []) = ⟨[0, 1], 1, k, [], ([], [])⟩ := by
 rw [goS, zMy, if_pos rfl]
end Go.Proofs.YtajnbkhgnppckaaGreatDoor
/- Lists of all values of which all holds: what the program's call does, and the document's. -/
namespace Go.Proofs.YtajnbkhgnppckaaGreatDoor
open Go.RowKit
set_option linter.unusedVariables false
set_option linter.unusedSimpArgs false
abbrev hpL (m : MdlD) (out : List (List Int)) : List (Nat × HObj) := [(1000, .cells [.sl .var m.vars, .sl .con m.cons, dI m.goal, dI m.var, .own 2000]), (2000, .row 26 (.list .int) out)]
theorem zNy (s : List (List Int)) (v n : Int) : Sat Tryz.prog zu [dS s, .clo zxe none [.iptr [dI v] 0, .iptr [dI n] 0]] (dS (keep1 s v n)) :=
 zEc (f := fun w k => !decide ((w : Int) = v) || decide (k = n)) zct fun w hw k hk => zpy w k v n fun ok => by
  rw [zoy]
  refine za (fun e => ?_) fun e => ?_
  ·rw [e]; rfl
  ·rw [e, Bool.false_or]
theorem zOy {m : MdlD} (hm : checkM m = 0) : ∀ (k : Nat) (s out : List (List Int)), sizeS s ≤ k → leS s (fullS m) → out.length ≤ 200 →
  SatH Tryz.prog z7c [.ptr 1000 0, dS s] (hpL m out) (dB (decide (out.length + (solsS m s).length ≤ 200))) (hpL m ((out ++ solsS m s).take 200)) := by
 intro k
 induction k using Nat.strongRecOn with
 | _ k ih =>
  intro s out hk hle hout
  have hmc := zXm hm
  have hr := hmc.right
  have hv := hr.vars
  refine zcy m.vars m.cons m.goal m.var out s fun ok ok2 => ?_
  rw [zby]
  have hs : s.length = m.vars.length := hle.1.trans zd
  refine call1 (zKd hmc (zpb hr (zHd zPc hle)) (by decide)) ?_
  rw [← zFx hmc hle]
  have ht := run_le (cons := true) hmc hs
  have htl := run_len (cons := true) hmc hs
  have hsz := ht.size
  have htf := ht.trans hle
  have hst := fun h => zcc (cons := true) hmc hs h
  generalize runS m true [] s = t at ht htl hsz htf hst ⊢
  refine call1 (zq t) (za (fun e => ?_) fun e => ?_)
  ·have e0 : solsS m t = [] := by rw [solsS, zGx e]; rfl
   rw [e0, List.append_nil, List.take_of_length_le hout, decide_eq_true (show out.length + ([] : List (List Int)).length ≤ 200 by simpa using hout)]
   exact ⟨rfl, rfl⟩
  ·have hne := zx.1 e
   refine call1 (z8n t) ?_
   rcases zOi t with ⟨eo, h1⟩ | ⟨v, eo, hv', h1, h2⟩
   ·refine dt (by omega : openI t < 0) ?_
    have hone : ∀ v : Nat, v < t.length → (t.getD v []).length = 1 := fun v hv => by
     have := h1 v
     have := List.length_pos_iff.2 (hne v hv)
     omega
    have hp := zKn hone
    have hin : InS (valsS t) t := zec.1 (by rw [hp]; exact List.mem_singleton.2 rfl)
    have huniq : ∀ us, InS us t → us = valsS t := fun us hu => by
     have := zec.2 hu
     rw [hp] at this; exact List.mem_singleton.1 this
    have hw : wholeM m (valsS t) = true := zWn (hin.1.trans htl) (hin.mono htf) fun c hc => by
     have hpos := hmc.pos
     obtain ⟨n, hn⟩ := List.exists_mem_of_ne_nil _ (hne 0 (by omega))
     obtain ⟨us, u1, _, u3⟩ := (zOc hmc hc).congr (Q' := fun _ => true) htl (vs := []) (hst e _ (mem_ops.2 (.inl ⟨rfl, c, hc, rfl⟩))) e 0 n hn
     rw [huniq us u1] at u3; exact u3
    have e0 : solsS m t = [valsS t] := by rw [solsS, hp, List.filter_cons, hw]; rfl
    rw [e0]
    refine za (fun f => ?_) fun f => ?_
    ·have f : (out.length : Int) = 200 := of_decide_eq_true f
     rw [zXi (by omega), List.take_of_length_le (by omega), decide_eq_false (by simp; omega)]
     exact ⟨rfl, rfl⟩
    ·have f : ¬(out.length : Int) = 200 := of_decide_eq_false f
     rw [List.take_of_length_le (by simp; omega), decide_eq_true (by simp; omega)]
     refine up (I := fun n v a => z6g m.vars m.cons m.goal m.var _ t n v a out) (a := []) 0 t.length rfl (Nat.zero_le _) (by omega) (fun k a => a = valsS (t.take k)) rfl fun n j a _ hj ha hn => ?_
     subst ha
     rw [z9x]
     by_cases h : j < t.length
     ·have hrow : 0 < t[j].length := List.length_pos_iff.2 (by have := hne j h; rwa [getD_at _ h] at this)
      rw [sel_lt h, at_nat (t := .list .int) h]
      refine ⟨inb_nat h, inb_nat (k := 0) hrow, room_of (t := .int) ?_, hn h _ ?_⟩
      ·rw [valsS, List.length_map, List.length_take]; show (_ + 1) * 8 ≤ _; omega
      ·rw [zbo h]; rfl
     ·have hj' : j = t.length := by omega
      subst hj'
      rw [sel_end, List.take_length]
      exact ⟨room_of (t := .list .int) (by show (out.length + 1) * 24 ≤ _; omega), rfl, rfl⟩
   ·refine df (by omega : ¬openI t < 0) ?_
    rw [eo]
    have hb := zKx (m := m) hv' (zTi htf v) fun w hw => by
     have := h2 w hw
     have := List.length_pos_iff.2 (hne w (by omega))
     omega
    have e1 : at' (.list .int) t (v : Int).toNat = t.getD v [] := by rw [at_nat hv', getD_at _ hv']
    have hrow6 : (t.getD v []).length ≤ 6 := Nat.le_trans (htf.2 v).length_le (zQg hr v)
    refine ⟨inb_nat hv', ?_⟩
    rw [hb]
    have main : ∃ n2, zTd (fun d h1 => d = dB (decide (out.length + ((t.getD v []).flatMap fun n => solsS m (keep1 t v n)).length ≤ 200)) ∧ h1 = hpL m ((out ++ (t.getD v []).flatMap fun n => solsS m (keep1 t v n)).take 200)) t (v : Int) n2 0 m.vars m.cons m.goal m.var out := by
     refine up (I := fun n i a => zTd _ t (v : Int) n i m.vars m.cons m.goal m.var a) (a := out) 0 (t.getD v []).length rfl (Nat.zero_le _) (by omega)
      (fun k a => a = out ++ (((t.getD v []).take k).flatMap fun n => solsS m (keep1 t v n)) ∧ a.length ≤ 200) ⟨by simp, hout⟩ fun n j a _ hj ha hn => ?_
     obtain ⟨ha, hal⟩ := ha
     rw [zay, e1]
     by_cases h : j < (t.getD v []).length
     ·rw [sel_lt h, at_nat (t := .int) h]
      have hlt : sizeS (keep1 t v (t.getD v [])[j]) < k := by
       refine Nat.lt_of_lt_of_le ((zmb (s := t)).size_lt fun e => ?_) (Nat.le_trans hsz hk)
       have e2 : (keep1 t v (t.getD v [])[j]).getD v [] = t.getD v [] := by rw [keep1, e]
       rw [keep1, zm] at e2
       have e3 := congrArg List.length e2
       have e4 : ((t.getD v []).filter fun k => !decide ((v : Int) = (v : Int)) || decide (k = (t.getD v [])[j])).length ≤ 1 := by
        rw [show (fun k : Int => !decide ((v : Int) = (v : Int)) || decide (k = (t.getD v [])[j])) = fun k => decide (k = (t.getD v [])[j]) by funext k; simp]
        exact zPi (zTi htf v) _
       omega
      have hrec := ih _ hlt (keep1 t v (t.getD v [])[j]) a (Nat.le_refl _) (zmb.trans htf) hal
      have htk : ((t.getD v []).take (j + 1)).flatMap (fun n => solsS m (keep1 t v n)) = ((t.getD v []).take j).flatMap (fun n => solsS m (keep1 t v n)) ++ solsS m (keep1 t v (t.getD v [])[j]) := by
       rw [← List.take_append_getElem h, List.flatMap_append]; simp
      have hall : (t.getD v []).flatMap (fun n => solsS m (keep1 t v n)) = ((t.getD v []).take (j + 1)).flatMap (fun n => solsS m (keep1 t v n)) ++ ((t.getD v []).drop (j + 1)).flatMap (fun n => solsS m (keep1 t v n)) := by
       rw [← List.flatMap_append, List.take_append_drop]
      have hal2 : (a ++ solsS m (keep1 t v (t.getD v [])[j])) = out ++ ((t.getD v []).take (j + 1)).flatMap (fun n => solsS m (keep1 t v n)) := by rw [ha, htk, List.append_assoc]
      refine ⟨inb_nat h, call1 (zNy t v _) ⟨_, _, hrec, za (fun f => ?_) fun f => ?_⟩⟩
      ·have f : ¬a.length + (solsS m (keep1 t v (t.getD v [])[j])).length ≤ 200 := by simpa using f
       have hlen := congrArg List.length hal2
       rw [List.length_append] at hlen
       rw [hall, ← List.append_assoc, ← hal2, zXi (a := a ++ solsS m (keep1 t v (t.getD v [])[j])) (by rw [List.length_append]; omega), decide_eq_false (by
        rw [List.length_append]
        rw [List.length_append] at hlen
        omega)]
       exact ⟨rfl, rfl⟩
      ·have f : a.length + (solsS m (keep1 t v (t.getD v [])[j])).length ≤ 200 := by simpa using f
       rw [List.take_of_length_le (l := a ++ solsS m (keep1 t v (t.getD v [])[j])) (by rw [List.length_append]; exact f)]
       exact hn h _ ⟨hal2, by rw [List.length_append]; exact f⟩
     ·have hj' : j = (t.getD v []).length := by omega
      subst hj'
      rw [List.take_length] at ha
      rw [sel_end, ← ha, List.take_of_length_le hal, decide_eq_true (by
       have := congrArg List.length ha
       rw [List.length_append] at this
       omega)]
      exact ⟨rfl, rfl⟩
    exact main
def listA (m : MdlD) : List (List Int) := if checkM m = 0 then (solsS m (fullS m)).take 200 else []
def listB (m : MdlD) : Bool := orB (checkM m) (decide ((solsS m (fullS m)).length ≤ 200))
theorem zdo (m : MdlD) : Sat Tryz.prog zqc [dM m] (.tup [dS (listA m), dB (listB m), dI (checkM m)]) :=
 z0x m fun ok => by
  rw [zZx, listA, listB]
  refine call1 (zel m) (za (fun e => ?_) fun e => ?_)
  ·rw [if_neg (zxb e), orB1 (zxb e)]
  ·have e := z0b e
   rw [if_pos e, orB0 e, e]
   have h := zOy e _ (fullS m) [] (Nat.le_refl _) (leS.refl _) (Nat.zero_le _)
   refine call1 (full_ok (zHb e)) ⟨_, _, h, ?_⟩
   simp
theorem z3i (a b : List (List Int)) : Sat Tryz.prog z1b [dS a, dS b] (dB (decide (a = b))) :=
 zzs a b fun ok => by
  have hl : a.length ≤ 9223372036854775807 := okLen (t := .list .int) (ok1 ok)
  rw [zys]
  refine za (fun e => ?_) fun e => ?_
  ·rw [decide_eq_false (p := a = b) fun h => by subst h; simp at e]
  have e : a.length = b.length := by simp at e; omega
  have hz : (a.zip b).length = a.length := by rw [List.length_zip]; omega
  refine any0 (I := fun n v => zZf a b _ n v) (a.zip b) (fun x => !decide (x.1 = x.2)) (by omega) (X := dB false = dB (decide (a = b))) (Y := dB true = dB (decide (a = b))) (by rw [zqd a b e]; cases decide (a = b) <;> rfl) (fun n k h hX hn => ?_) fun n hY => ?_
  ·have hk : k < a.length := by omega
   rw [List.getElem_zip] at hX hn
   rw [zNk, sel_lt hk, at_nat (t := .list .int) hk, at_nat (t := .list .int) (show k < b.length by omega)]
   exact ⟨inb_nat hk, inb_nat (by omega), call1 (zll _ _) (za hX hn)⟩
  ·rw [hz, zNk, sel_end]; exact hY
end Go.Proofs.YtajnbkhgnppckaaGreatDoor
/- Lists of all values of which all holds: the document's counting, and the laws. -/
namespace Go.Proofs.YtajnbkhgnppckaaGreatDoor
open Go.RowKit
set_option linter.unusedVariables false
set_option linter.unusedSimpArgs false
theorem set_get (l : List Int) (v w : Nat) (x : Int) (hv : v < l.length) : (l.set v x).getD w 0 = if v = w then x else l.getD w 0 := by
 rw [List.getD_eq_getElem?_getD, List.getElem?_set, List.getD_eq_getElem?_getD]
 by_cases h : v = w
 ·subst h; rw [if_pos rfl, if_pos rfl, if_pos hv]; rfl
 ·rw [if_neg h, if_neg h]
theorem z4i {m : MdlD} (hr : Right m) {v : Nat} (hv : v < m.vars.length) : ((fullS m).getD v []).getLastD 0 = m.vars[v].hi ∧ (losS (fullS m)).getD v 0 = m.vars[v].lo := by
 have hb := hr.var _ (List.getElem_mem hv)
 have e : fullV m.vars[v] = upL m.vars[v].lo ((m.vars[v].hi - m.vars[v].lo).toNat + 1) := by
  rw [fullV, show (m.vars[v].hi + 1 - m.vars[v].lo).toNat = (m.vars[v].hi - m.vars[v].lo).toNat + 1 by omega]
 refine ⟨by rw [zcb hv, e, z3g]; omega, ?_⟩
 have hl : v < (fullS m).length := by rw [zd]; exact hv
 have h1 : (losS (fullS m)).getD v 0 = ((fullS m).getD v []).getD 0 0 := by
  rw [losS, List.getD_eq_getElem?_getD, List.getElem?_map, List.getD_eq_getElem?_getD (l := fullS m), List.getElem?_eq_getElem hl]; rfl
 rw [h1, zcb hv, e, zqb]; rfl
theorem odo {m : MdlD} (hr : Right m) {vs : List Int} (hv : InS vs (fullS m)) {I : Nat → Int → List Int → Prop} {X : Prop} {N : List Int → Prop}
  (hI : ∀ n v l, I (n + 1) v l = sel (decide (0 ≤ v)) (inb v l.length = true ∧ inb v m.vars.length = true ∧ sel (decide ((at' .int l v.toNat) = ((at' .var m.vars v.toNat).hi))) (inb v m.vars.length = true ∧ inb v l.length = true ∧ I n (w64 (v - 1)) (l.set v.toNat ((at' .var m.vars v.toNat).lo)))
   (sel (decide (v < 0)) X (inb v l.length = true ∧ inb v l.length = true ∧ N (l.set v.toNat (w64 ((at' .int l v.toNat) + 1)))))) (sel (decide (v < 0)) X (inb v l.length = true ∧ inb v l.length = true ∧ N (l.set v.toNat (w64 ((at' .int l v.toNat) + 1))))))
  (hX : stepS (fullS m) vs = none → X) (hN : ∀ ws, stepS (fullS m) vs = some ws → N ws) :
  ∀ j : Nat, j ≤ m.vars.length → (∀ v : Nat, j ≤ v → v < m.vars.length → vs.getD v 0 = ((fullS m).getD v []).getLastD 0) → ∃ n, I n ((j : Int) - 1) (vs.take j ++ (losS (fullS m)).drop j)
 | 0, _, h => ⟨1, by
  rw [hI]
  exact df (by omega) (dt (by omega) (hX (zWi hv.1 fun v hv' => h v (Nat.zero_le _) (by rwa [zd] at hv'))))⟩
 | j + 1, hj, h => by
  have hfl : (fullS m).length = m.vars.length := zd
  have hvl : vs.length = m.vars.length := hv.1.trans hfl
  have hll : (losS (fullS m)).length = m.vars.length := by rw [losS, List.length_map, hfl]
  have hlen : (vs.take (j + 1) ++ (losS (fullS m)).drop (j + 1)).length = m.vars.length := by
   rw [List.length_append, List.length_take, List.length_drop]; omega
  have hb := hr.var _ (List.getElem_mem (show j < m.vars.length by omega))
  obtain ⟨hlast, hlo⟩ := z4i hr (show j < m.vars.length by omega)
  have hn6 := hr.vars
  have e0 : (((j + 1 : Nat) : Int) - 1) = (j : Int) := by omega
  have ev : at' .var m.vars (j : Int).toNat = m.vars[j] := at_nat (t := .var) (by omega)
  have hg : (vs.take (j + 1) ++ (losS (fullS m)).drop (j + 1))[j]? = vs[j]? := by
   rw [List.getElem?_append_left (by rw [List.length_take]; omega), List.getElem?_take, if_pos (by omega)]
  have ex : at' .int (vs.take (j + 1) ++ (losS (fullS m)).drop (j + 1)) (j : Int).toNat = vs.getD j 0 := by
   show List.getD _ (Int.toNat (j : Int)) _ = _
   rw [Int.toNat_natCast, List.getD_eq_getElem?_getD, hg, List.getD_eq_getElem?_getD]; rfl
  have hset : ∀ x : Int, (vs.take (j + 1) ++ (losS (fullS m)).drop (j + 1)).set (j : Int).toNat x = vs.take j ++ x :: (losS (fullS m)).drop (j + 1) := fun x => by
   rw [Int.toNat_natCast, List.set_append_left _ _ (by rw [List.length_take]; omega), ← List.take_append_getElem (show j < vs.length by omega), List.set_append_right _ _ (by rw [List.length_take]; omega), List.length_take, show j - min j vs.length = 0 by omega, List.append_assoc]; rfl
  have hx := upL_mem.1 (show vs.getD j 0 ∈ upL m.vars[j].lo (m.vars[j].hi + 1 - m.vars[j].lo).toNat by
   have := hv.2 j (by omega)
   rwa [zcb (by omega), fullV] at this)
  have out : vs.getD j 0 ≠ m.vars[j].hi → sel (decide ((j : Int) < 0)) X (inb (j : Int) (vs.take (j + 1) ++ (losS (fullS m)).drop (j + 1)).length = true ∧ inb (j : Int) (vs.take (j + 1) ++ (losS (fullS m)).drop (j + 1)).length = true ∧ N ((vs.take (j + 1) ++ (losS (fullS m)).drop (j + 1)).set (j : Int).toNat (w64 (vs.getD j 0 + 1)))) := fun hne => by
   refine df (by omega) ⟨by rw [hlen]; exact inb_nat (by omega), by rw [hlen]; exact inb_nat (by omega), ?_⟩
   rw [hset, w64_eq (by omega) (by omega)]
   exact hN _ (zMn hv.1 (by omega) (fun v h1 h2 => h v (by omega) (by omega)) (by rw [hlast]; exact hne))
  by_cases hne : vs.getD j 0 = m.vars[j].hi
  ·obtain ⟨n, hn⟩ := odo hr hv hI hX hN j (by omega) fun v h1 h2 => by
    by_cases hvj : v = j
    ·subst hvj; rw [hlast]; exact hne
    ·exact h v (by omega) h2
   refine ⟨n + 1, ?_⟩
   rw [hI, e0]
   refine dt (by omega) ⟨by rw [hlen]; exact inb_nat (by omega), inb_nat (by omega), ?_⟩
   rw [ex, ev]
   refine dt hne ⟨inb_nat (by omega), by rw [hlen]; exact inb_nat (by omega), ?_⟩
   rw [hset, w64_eq (by omega) (by omega)]
   have ed : m.vars[j].lo :: (losS (fullS m)).drop (j + 1) = (losS (fullS m)).drop j := by
    rw [List.drop_eq_getElem_cons (show j < (losS (fullS m)).length by omega), ← hlo, getD_at _ (show j < (losS (fullS m)).length by omega)]
   rw [ed]; exact hn
  ·refine ⟨1, ?_⟩
   rw [hI, e0]
   refine dt (by omega) ⟨by rw [hlen]; exact inb_nat (by omega), inb_nat (by omega), ?_⟩
   rw [ex, ev]
   exact df hne (out hne)
def restT (s : List (List Int)) (vs : List Int) : List (List Int) := match stepS s vs with | some ws => restS s ws | none => []
theorem zeo {m : MdlD} (hr : Right m) (hn : m.vars.length ≤ 6) (k : Nat) (hk : k ≤ 100000) : ∀ (d : Nat) (out : List (List Int)) (vs : List Int), (restS (fullS m) vs).length ≤ d → InS vs (fullS m) → out.length ≤ k → solsS m (fullS m) = out ++ (restS (fullS m) vs).filter (wholeM m) →
  ∃ n2, zFb m (k : Int) (fun x => x = .tup [dS ((solsS m (fullS m)).take k), dB (decide ((solsS m (fullS m)).length ≤ k))]) n2 out vs
 | 0, out, vs, hd, hv, _, _ => by
  rw [zVi (z4g hr) hv] at hd
  simp at hd
 | d + 1, out, vs, hd, hv, ho, hs => by
  have hvl : vs.length = m.vars.length := hv.1.trans zd
  have hrs : restS (fullS m) vs = vs :: restT (fullS m) vs := zVi (z4g hr) hv
  rw [hrs] at hd hs
  rw [List.length_cons] at hd
  have step : ∀ out' : List (List Int), out'.length ≤ k → solsS m (fullS m) = out' ++ (restT (fullS m) vs).filter (wholeM m) →
    (stepS (fullS m) vs = none → (fun x => x = D.tup [dS ((solsS m (fullS m)).take k), dB (decide ((solsS m (fullS m)).length ≤ k))]) (.tup [dS out', dB true])) ∧ ∃ n2, ∀ ws, stepS (fullS m) vs = some ws → zFb m (k : Int) (fun x => x = .tup [dS ((solsS m (fullS m)).take k), dB (decide ((solsS m (fullS m)).length ≤ k))]) n2 out' ws := by
   intro out' h1 h2
   rw [restT] at h2 hd
   cases es : stepS (fullS m) vs with
   | none =>
    rw [es] at h2
    have h2 : solsS m (fullS m) = out' := by rw [h2]; simp
    refine ⟨fun _ => ?_, 0, fun ws h => by cases h⟩
    show D.tup _ = D.tup _
    rw [h2, List.take_of_length_le h1, decide_eq_true h1]
   | some ws =>
    rw [es] at h2 hd
    refine ⟨fun h => (by cases h), ?_⟩
    obtain ⟨n2, h⟩ := zeo hr hn k hk d out' ws (by simp only at hd; omega) (step_in (z4g hr) hv es) h1 h2
    exact ⟨n2, fun ws' h' => by injection h' with h'; subst h'; exact h⟩
  have hw64 : w64 ((vs.length : Int) - 1) = (m.vars.length : Int) - 1 := by rw [hvl]; exact w64_eq (by omega) (by omega)
  have hall : vs.take m.vars.length ++ (losS (fullS m)).drop m.vars.length = vs := by
   rw [List.take_of_length_le (by omega), List.drop_of_length_le (by rw [losS, List.length_map, zd]; exact Nat.le_refl _), List.append_nil]
  cases e : wholeM m vs with
  | false =>
   rw [List.filter_cons, e] at hs
   obtain ⟨hX, n2, hN⟩ := step out ho hs
   refine ⟨n2 + 1, ?_⟩
   rw [zZh]
   refine call1 (t := .bool) (zxi hr hvl) (bf e ?_)
   rw [hw64]
   have h := odo hr hv (I := fun n v l => zWf m (k : Int) _ n2 n v out l) (fun n v l => zus ..) hX hN m.vars.length (Nat.le_refl _) fun v h1 h2 => by omega
   rwa [hall] at h
  | true =>
   rw [List.filter_cons, e] at hs
   have hs : solsS m (fullS m) = out ++ vs :: (restT (fullS m) vs).filter (wholeM m) := hs
   by_cases hf : out.length = k
   ·refine ⟨1, ?_⟩
    rw [zZh]
    refine call1 (t := .bool) (zxi hr hvl) (bt e (dt (by omega) ?_))
    show D.tup _ = D.tup _
    rw [hs, zXi (by omega), List.take_of_length_le (by omega), decide_eq_false (by rw [List.length_append, List.length_cons]; omega)]
   ·obtain ⟨hX, n2, hN⟩ := step (out ++ [vs]) (by rw [List.length_append]; show _ + 1 ≤ _; omega) (by rw [hs, List.append_assoc]; rfl)
    refine ⟨n2 + 1, ?_⟩
    rw [zZh]
    refine call1 (t := .bool) (zxi hr hvl) (bt e (df (by omega) ⟨room_of (t := .int) (by show (0 + _) * 8 ≤ _; omega), room_of (t := .list .int) (by show (out.length + 1) * 24 ≤ _; omega), ?_⟩))
    rw [hw64]
    have h := odo hr hv (I := fun n v l => zVf m (k : Int) _ n2 n v (out ++ [vs]) l) (fun n v l => zts ..) hX hN m.vars.length (Nat.le_refl _) fun v h1 h2 => by omega
    rwa [hall] at h
theorem zPy {m : MdlD} (hr : Right m) {k : Nat} (hk : k ≤ 100000) : Sat Tryz.prog zje [dM m, dI k] (.tup [dS ((solsS m (fullS m)).take k), dB (decide ((solsS m (fullS m)).length ≤ k))]) :=
 zxs m k fun ok => by
  have hn := hr.vars
  have hll : (losS (fullS m)).length = m.vars.length := by rw [losS, List.length_map, zd]
  rw [zws]
  refine ⟨rfl, by omega, room_of (t := .int) (by rw [Int.toNat_natCast]; show _ * 8 ≤ _; omega), ?_⟩
  refine up (I := fun n v a => zXf m k _ n v a) 0 m.vars.length rfl (Nat.zero_le _) (by omega) (fun j a => a.length = m.vars.length ∧ ∀ v : Nat, v < j → a.getD v 0 = (losS (fullS m)).getD v 0) ⟨by simp, fun v h => by omega⟩ fun n j a _ hj ha hn' => ?_
  obtain ⟨h1, h2⟩ := ha
  rw [zvs, h1]
  by_cases h : j < m.vars.length
  ·rw [sel_lt h]
   refine ⟨inb_nat h, inb_nat h, hn' h _ ⟨by rw [List.length_set]; exact h1, fun v hv => ?_⟩⟩
   rw [at_nat (t := .var) h, Int.toNat_natCast, set_get _ _ _ _ (by omega)]
   by_cases hvj : j = v
   ·subst hvj; rw [if_pos rfl]; exact (z4i hr h).2.symm
   ·rw [if_neg hvj]; exact h2 v (by omega)
  ·have hj' : j = m.vars.length := by omega
   subst hj'
   have e : a = losS (fullS m) := zHc (d := 0) (h1.trans hll.symm) fun v => by
    by_cases hv : v < m.vars.length
    ·exact h2 v hv
    ·rw [zj (by omega), zj (by omega)]
   subst e
   rw [sel_end]
   refine zeo hr hn k hk _ [] _ (Nat.le_refl _) ⟨by rw [hll, zd], fun v hv => ?_⟩ (Nat.zero_le _) ?_
   ·have hv : v < m.vars.length := by rwa [zd] at hv
    have hb := hr.var _ (List.getElem_mem hv)
    rw [(z4i hr hv).2, zcb hv, zKg]; omega
   ·rw [zUi (z4g hr)]; rfl
theorem zQy : solsS twoM (fullS twoM) = [[0, 1], [0, 2], [1, 2]] := by kernel_rfl
theorem zRy : Sat Tryz.prog zqc [dM twoM] (.tup [dS [[0, 1], [0, 2], [1, 2]], dB true, dI 0]) := by
 have h := zdo twoM
 have e : checkM twoM = 0 := by kernel_rfl
 rwa [listA, listB, if_pos e, orB0 e, e, zQy] at h
theorem zSy : Sat Tryz.prog z2c [dM twoM, dI 9] (.tup [toD .ans ⟨1, [0, 1], []⟩, dI 0]) := by
 have h := zIy twoM 9
 have e : readyS twoM 9 = 0 := by kernel_rfl
 have e2 : solveS twoM 9 = ⟨1, [0, 1], []⟩ := by rw [solveS, two_go (k := 8), if_neg (by decide)]
 rw [solveA, if_pos e, e] at h
 rw [← e2]; exact h
theorem zTy : Sat Tryz.prog z1b [dS [[0, 1], [0, 2], [1, 2]], dS [[0, 1], [0, 2], [1, 2]]] (dB true) := by
 have h := z3i [[0, 1], [0, 2], [1, 2]] [[0, 1], [0, 2], [1, 2]]
 rwa [decide_eq_true rfl] at h
theorem zfo : Sat Tryz.prog z3c [] (dB true) :=
 zWt fun ok => by
  rw [zVt]
  exact call1 (t := .mdl) zpl (call2 (t := .ans) (u := .int) zSy (call1 (t := .mdl) zpl (call3 (t := .list (.list .int)) (u := .bool) (v := .int) zRy (dt rfl (dt rfl (dt rfl (dt rfl (bt rfl (call1 (t := .bool) zTy rfl)))))))))
theorem zUy (m : MdlD) : Sat Tryz.prog z2j [dM m] (dB true) :=
 zUt m fun ok => by
  rw [zTt]
  refine call3 (t := .list (.list .int)) (u := .bool) (v := .int) (zdo m) (call1 (t := .int) (zOt m) ?_)
  by_cases e : checkM m = 0
  ·refine dt e (call2 (t := .list (.list .int)) (u := .bool) (zPy (zHb e) (k := 200) (by decide)) (call1 (t := .bool) zfo (bt rfl (dt rfl (call1 (t := .bool) (z3i _ _) ?_)))))
   rw [listA, listB, if_pos e, orB0 e]
   refine dt rfl ?_
   simp
  ·refine df e (call1 (t := .bool) zfo (bt rfl (dt rfl (call1 (t := .bool) (z3i _ _) ?_))))
   rw [listA, listB, if_neg e, orB1 e]
   exact dt rfl rfl
end Go.Proofs.YtajnbkhgnppckaaGreatDoor
