/- Texts of this proof, one behind the other: nothing is handed in but what is proved here; no condition. -/
import Derived.Test.YtajnbkhgnppckaaGreatDoorML
import Derived.Test.YtajnbkhgnppckaaGreatDoorMK
import Derived.Test.YtajnbkhgnppckaaGreatDoorWSearch
import Derived.Test.YtajnbkhgnppckaaGreatDoorWBest
import Derived.Test.YtajnbkhgnppckaaGreatDoorWCordonlaw
import Derived.Test.YtajnbkhgnppckaaGreatDoorWCordonref
/- Searches: what the program's calls do. -/
namespace Go.Proofs.YtajnbkhgnppckaaGreatDoor
open Go.RowKit
set_option linter.unusedVariables false
set_option linter.unusedSimpArgs false
abbrev hpS (m : MdlD) (g l : List (List LitD)) (fuel : Int) (p : NoteS) : List (Nat × HObj) := [(1000, .cells [.sl .var m.vars, .sl .con m.cons, dI m.goal, dI m.var, .sl (.list .lit) g, dI fuel, .own 2000, .own 2001, .own 1001]), (2000, .row 47 (.list .lit) l), (2001, .row 71 .step p.1), (1001, .mp .str .int p.2)]
def LitI (x : LitD) : Prop := inI64 x.var ∧ inI64 x.op ∧ inI64 x.n
theorem litI_of {nv : Nat} {x : LitD} (hn : nv ≤ 6) (h : litE nv x = 0) : LitI x := by
 obtain ⟨h1, h2, h3⟩ := zL.1 h
 exact ⟨by unfold inI64; omega, by unfold inI64; omega, by unfold inI64; omega⟩
theorem zSw (c : List LitD) (x : LitD) : keyC (c ++ [x]) = keyC c ++ litK x := by rw [keyC, List.foldl_append]; rfl
theorem zTw : ∀ {c : List LitD}, (∀ x ∈ c, LitI x) → (keyC c).size ≤ c.length * 66 := fun {c} => by
 suffices H : ∀ (c : List LitD) (o : ByteArray), (∀ x ∈ c, LitI x) → (c.foldl (fun o x => o ++ litK x) o).size ≤ o.size + c.length * 66 from fun h => by
  have := H c ⟨#[]⟩ h
  rw [keyC]
  have e : (⟨#[]⟩ : ByteArray).size = 0 := rfl
  omega
 intro c
 induction c with
 | nil => exact fun o _ => by simp
 | cons x c ih =>
  intro o h
  have h1 := ih (o ++ litK x) fun y hy => h y (List.mem_cons_of_mem _ hy)
  obtain ⟨a, b, d⟩ := h x (List.mem_cons_self ..)
  have h2 := zjw a b d
  rw [ByteArray.size_append] at h1
  rw [List.foldl_cons, List.length_cons]
  omega
theorem zUw {c : List LitD} (hl : c.length ≤ 1000000) (hr : ∀ x ∈ c, LitI x) : Sat Tryz.prog zje [.sl .lit c] (.str (keyC c)) :=
 zRw c fun ok => by
  rw [zQw]
  refine up (I := fun n v a => zog c _ n a v) 0 c.length rfl (Nat.zero_le _) (by omega) (fun k a => a = keyC (c.take k)) rfl fun n k a _ hk ha hn => ?_
  subst ha
  rw [zPw]
  by_cases h : k < c.length
  ·rw [sel_lt h, at_nat (t := .lit) h]
   obtain ⟨h1, h2, h3⟩ := hr _ (List.getElem_mem h)
   have s1 := zZb h1; have s2 := zZb h2; have s3 := zZb h3
   have s0 := zTw (c := c.take k) fun x hx => hr x (List.mem_of_mem_take hx)
   rw [List.length_take] at s0
   have z58 : (⟨#[58]⟩ : ByteArray).size = 1 := rfl
   have z32 : (⟨#[32]⟩ : ByteArray).size = 1 := rfl
   refine ⟨inb_nat h, call1 (t := .str) (itoa_ok h1) ⟨by omega, call1 (t := .str) (itoa_ok h2) ⟨?_, ?_, call1 (t := .str) (itoa_ok h3) ⟨?_, ?_, ?_, ?_⟩⟩⟩⟩
   ·rw [ByteArray.size_append]; omega
   ·simp only [ByteArray.size_append]; omega
   ·simp only [ByteArray.size_append]; omega
   ·simp only [ByteArray.size_append]; omega
   ·simp only [ByteArray.size_append]; omega
   ·refine hn h _ ?_
    rw [← List.take_append_getElem h, zSw]; rfl
  ·have hk' : k = c.length := by omega
   subst hk'
   rw [sel_end, List.take_length]
theorem zRm (s : List (List Int)) : Sat Tryz.prog zVc [dS s] (dI (openI s)) :=
 zKw s fun ok => by
  rw [zJw]
  refine seek (t := .list .int) (p := fun r : List Int => decide (1 < r.length)) (R := fun d => d = dI (openI s)) (okLen (t := .list .int) (ok1 ok)) rfl (fun n k h h1 h2 => ?_) fun n hR => ?_
  ·rw [zOm, sel_lt h, at_nat (t := .list .int) h]
   refine ⟨inb_nat h, za (fun e => h1 ?_) fun e => h2 ?_⟩
   ·have e : (1 : Int) < (s[k].length : Int) := of_decide_eq_true e
    exact decide_eq_true (by omega)
   ·have e : ¬(1 : Int) < (s[k].length : Int) := of_decide_eq_false e
    exact decide_eq_false (by omega)
  ·rw [zOm, sel_end]; exact hR
theorem zbi {m : MdlD} {g l : List (List LitD)} {fuel : Int} {p : NoteS} (hg : g.length ≤ 1000000) (hl : l.length ≤ 1000000) : SatH Tryz.prog zec [.ptr 1000 0] (hpS m g l fuel p) (.sl (.list .lit) (g ++ l)) (hpS m g l fuel p) :=
 zFw m.vars m.cons m.goal m.var g fuel l p.1 p.2 fun ok ok2 => by
  rw [zEw]
  simp only [dup2_eq, dup3_eq, and_self, -eq_self]
  refine ⟨room_of (t := .list .lit) ?_, room_of (t := .list .lit) ?_, rfl, rfl⟩
  ·show (0 + g.length) * 24 ≤ _; omega
  ·rw [List.nil_append]; show (g.length + l.length) * 24 ≤ _; omega
theorem zVw {m : MdlD} {g l : List (List LitD)} {fuel : Int} {p : NoteS} : SatH Tryz.prog z8d [.ptr 1000 0] (hpS m g l fuel p) (.tup [.sl .step p.1, dB (decide ((p.1.length : Int) ≤ 6000))]) [(1000, .cells [.sl .var m.vars, .sl .con m.cons, dI m.goal, dI m.var, .sl (.list .lit) g, dI fuel, .own 2000, .sl .step p.1, .own 1001]), (2000, .row 47 (.list .lit) l), (1001, .mp .str .int p.2)] :=
 zvw m.vars m.cons m.goal m.var g fuel l p.1 p.2 fun ok ok2 => by
  rw [zuw]
  exact ⟨rfl, rfl⟩
theorem zWw (m : MdlD) (fuel : Int) : SatH Tryz.prog z6d [dM m, dI fuel] [] (.ptr 3000 0) [(3000, .cells [.sl .var m.vars, .sl .con m.cons, dI m.goal, dI m.var, .sl (.list .lit) [], dI fuel, .nil, .nil, .own 3001]), (3001, .mp .str .int [])] :=
 zrw m fuel fun ok ok2 => by
  rw [zqw]
  exact ⟨rfl, rfl⟩
theorem zSm {p : NoteS} {st : StepD} : (note1 p st).1.length ≤ p.1.length + 1 ∧ (note1 p st).2.length ≤ p.2.length + 1 := by
 unfold note1
 split
 ·refine ⟨by simp, ?_⟩
  show (mput .str .int (keyC st.clause) 1 p.2).length ≤ _
  generalize p.2 = es
  induction es with
  | nil => exact Nat.le_refl _
  | cons e es ih =>
   obtain ⟨a, b⟩ := e
   show (bif keq .str (keyC st.clause) a then (a, (1 : Int)) :: es else (a, b) :: mput .str .int (keyC st.clause) 1 es).length ≤ _
   cases keq .str (keyC st.clause) a
   ·rw [cond_false, List.length_cons, List.length_cons]; omega
   ·rw [cond_true, List.length_cons, List.length_cons]; omega
 ·omega
theorem zTm : ∀ (t : List StepD) (p : NoteS), (noteS t p).1.length ≤ p.1.length + t.length ∧ (noteS t p).2.length ≤ p.2.length + t.length
 | [], p => ⟨Nat.le_refl _, Nat.le_refl _⟩
 | st :: t, p => by
  have h1 := zSm (p := p) (st := st)
  have h2 := zTm t (note1 p st)
  show (noteS t (note1 p st)).1.length ≤ _ ∧ (noteS t (note1 p st)).2.length ≤ _
  rw [List.length_cons]; omega
theorem zXw {m : MdlD} {g l : List (List LitD)} {fuel : Int} {p : NoteS} {t : List StepD} (h1 : p.1.length ≤ 1000000) (h2 : p.2.length ≤ 1000000) (ht : t.length ≤ 1000000) (hc : ∀ st ∈ t, st.clause.length ≤ 1000000 ∧ ∀ x ∈ st.clause, LitI x) :
  SatH Tryz.prog zbe [.ptr 1000 0, .sl .step t] (hpS m g l fuel p) (.tup []) (hpS m g l fuel (noteS t p)) :=
 zIw m.vars m.cons m.goal m.var g fuel l p.1 p.2 t fun ok ok2 => by
  rw [zHw]
  refine up (I := fun n v (a : NoteS) => zGc t _ n v m.vars m.cons m.goal m.var g fuel a.2 l a.1) (a := p) 0 t.length rfl (Nat.zero_le _) (by omega) (fun k a => a = noteS (t.take k) p) rfl fun n k a _ hk ha hn => ?_
  subst ha
  show zGc t _ _ _ _ _ _ _ _ _ (noteS (t.take k) p).2 _ (noteS (t.take k) p).1
  rw [zGw]
  by_cases h : k < t.length
  ·rw [sel_lt h, at_nat (t := .step) h]
   obtain ⟨c1, c2⟩ := hc _ (List.getElem_mem h)
   have hs : noteS (t.take (k + 1)) p = note1 (noteS (t.take k) p) t[k] := by
    rw [← List.take_append_getElem h]; exact List.foldl_append ..
   obtain ⟨n1, n2⟩ := zTm (t.take k) p
   rw [List.length_take] at n1 n2
   refine ⟨inb_nat h, call1 (t := .str) (zUw c1 c2) (za (fun e => ?_) fun e => ?_)⟩
   ·have e : metK t[k].clause (noteS (t.take k) p).2 = 0 := of_decide_eq_true e
    refine ⟨decide_eq_true (by omega), room_of (t := .step) (by show ((noteS (t.take k) p).1.length + 1) * 40 ≤ _; omega), hn h (_, _) ?_⟩
    rw [hs, note1, if_pos e]
   ·have e : ¬metK t[k].clause (noteS (t.take k) p).2 = 0 := of_decide_eq_false e
    refine hn h _ ?_
    rw [hs, note1, if_neg e]
  ·have hk' : k = t.length := by omega
   subst hk'
   rw [sel_end, List.take_length]
   exact ⟨rfl, rfl⟩
end Go.Proofs.YtajnbkhgnppckaaGreatDoor
/- Searches: the way down, the rounds, and what is answered. -/
namespace Go.Proofs.YtajnbkhgnppckaaGreatDoor
open Go.RowKit
set_option linter.unusedVariables false
set_option linter.unusedSimpArgs false
theorem zUm {s : List (List Int)} {k : Nat} (h : k < s.length) : valsS (s.take (k + 1)) = valsS (s.take k) ++ [s[k].getD 0 0] := by
 rw [valsS, ← List.take_append_getElem h, List.map_append]; rfl
theorem zYw (s : List (List Int)) (v n : Int) (x : LitD) (hx : x.n = n) : Sat Tryz.prog zt [dS s, .clo zge none [.iptr [dI v] 0, .iptr (cells .lit x) 0]] (dS (keep1 s v n)) :=
 zpc (f := fun w k => !decide ((w : Int) = v) || decide (k = n)) zsr fun w hw k hk => zOw w k v x fun ok => by
  rw [zNw]
  refine za (fun e => ?_) fun e => ?_
  ·rw [e]; rfl
  ·rw [e, Bool.false_or, hx]
theorem zZw {m : MdlD} {g l : List (List LitD)} {fuel : Int} {p : NoteS} (hmc : RightMC m (g ++ l)) (hg : g.length ≤ 1000000) (hl : l.length ≤ 1000000) :
  SatH Tryz.prog z9d [.ptr 1000 0] (hpS m g l fuel p) (.tup [.slN .lit (downS m (g ++ l)).1 (downS m (g ++ l)).2.1, .sl .int (downS m (g ++ l)).2.2]) (hpS m g l fuel p) :=
 zDw m.vars m.cons m.goal m.var g fuel l p.1 p.2 fun ok ok2 => by
  rw [zCw]
  have hr := hmc.right
  have hv := hr.vars
  refine ⟨_, zbi hg hl, call1 (full_ok hr) (call1 (zxd hmc (zhb hr zAc) (by rw [List.length_append]; omega)) ?_)⟩
  generalize hL : g ++ l = L at hmc ⊢
  suffices H : ∀ (k : Nat) (d : List LitD), WayR m L d → m.vars.length + 1 ≤ k + d.length → ∀ r, r = downF m L k (fixD m L d) d →
    zlg p.2 (fun d h1 => d = .tup [.slN .lit r.1 r.2.1, .sl .int r.2.2] ∧ h1 = hpS m g l fuel p) L k (fixD m L d) d m.vars m.cons m.goal m.var g fuel l p.1 from ⟨_, H (m.vars.length + 1) [] .nil (by simp) _ rfl⟩
  intro k
  induction k with
  | zero => exact fun d hc hk => absurd hc.len (by omega)
  | succ k ih =>
   intro d hc hk r hr'
   rw [zBw]
   simp only [dup2_eq, dup3_eq, and_self, -eq_self]
   rw [downF] at hr'
   have hlen : (fixD m L d).length = m.vars.length := zEc hmc
   refine call1 (zo _) (za (fun e => ?_) fun e => ?_)
   ·have hf : failS (fixD m L d) = false := by simpa using e
    rw [if_neg (by rw [hf]; decide)] at hr'
    refine call1 (zRm _) ?_
    rcases zYh (fixD m L d) with ⟨eo, h1⟩ | ⟨v, eo, hv', h1, h2⟩
    ·rw [if_pos (by omega)] at hr'
     rw [decide_eq_true (show openI (fixD m L d) < 0 by omega), hr']
     have hne := zv.1 hf
     refine up (I := fun n v a => zkg p.2 _ k (fixD m L d) m.vars m.cons m.goal m.var g fuel n v a l p.1) (a := []) 0 (fixD m L d).length rfl (Nat.zero_le _) (by omega) (fun k a => a = valsS ((fixD m L d).take k)) rfl fun n j a _ hj ha hn => ?_
     subst ha
     rw [zAw]
     by_cases h : j < (fixD m L d).length
     ·have hrow : 0 < (fixD m L d)[j].length := List.length_pos_iff.2 (by have := hne j h; rwa [getD_at _ h] at this)
      rw [sel_lt h, at_nat (t := .list .int) h]
      refine ⟨inb_nat h, inb_nat (k := 0) hrow, room_of (t := .int) ?_, hn h _ ?_⟩
      ·rw [valsS, List.length_map, List.length_take]; show (_ + 1) * 8 ≤ _; omega
      ·rw [zUm h]; rfl
     ·have hj' : j = (fixD m L d).length := by omega
      subst hj'
      rw [sel_end, List.take_length]
      exact ⟨rfl, rfl⟩
    ·rw [if_neg (by omega), eo, Int.toNat_natCast, zhg hmc hf] at hr'
     rw [eo, decide_eq_false (show ¬(v : Int) < 0 by omega)]
     have hvn : v < m.vars.length := by omega
     have hc' := hc.step hmc hf hvn eo h1 h2
     have e1 : at' (.list .int) (fixD m L d) (v : Int).toNat = (fixD m L d).getD v [] := by rw [at_nat hv', getD_at _ hv']
     have e2 : at' .int ((fixD m L d).getD v []) 0 = ((fixD m L d).getD v []).getD 0 0 := rfl
     rw [e1, e2]
     refine ⟨inb_nat hv', inb_nat (k := 0) (by omega), room_of (t := .lit) ?_, call1 (zYw _ _ _ ⟨v, 3, ((fixD m L d).getD v []).getD 0 0⟩ rfl) (call1 (zxd hmc ?_ (by rw [← hL, List.length_append]; omega)) ?_)⟩
     ·have := hc.len
      show (d.length + 1) * 24 ≤ _; omega
     ·exact zhb hr (zud zAc (zfb.trans (zYb hmc)))
     ·rw [zhg hmc hf]
      exact ih _ hc' (by rw [List.length_append, List.length_singleton]; omega) r hr'
   ·have hf : failS (fixD m L d) = true := by simpa using e
    rw [if_pos hf] at hr'
    rw [hr']
    exact ⟨rfl, rfl⟩
structure Fit (m : MdlD) (g l : List (List LitD)) (k : Nat) (p : NoteS) : Prop where
 sea : Sea m g l p
 fuel : l.length + k ≤ 300
 steps : p.1.length ≤ 6000
 met : p.2.length ≤ p.1.length
theorem z0w {p : NoteS} {st : StepD} (h : p.2.length ≤ p.1.length) : (note1 p st).2.length ≤ (note1 p st).1.length := by
 have h1 := (zSm (p := p) (st := st)).2
 by_cases e : metK st.clause p.2 = 0
 ·have h2 : (note1 p st).1.length = p.1.length + 1 := by rw [note1, if_pos e]; simp
  omega
 ·rw [note1, if_neg e]; exact h
theorem zVm : ∀ (t : List StepD) (p : NoteS), p.2.length ≤ p.1.length → (noteS t p).2.length ≤ (noteS t p).1.length
 | [], p, h => h
 | st :: t, p, h => zVm t (note1 p st) (z0w h)
theorem z1w {m : MdlD} {g l : List (List LitD)} {k : Nat} {p : NoteS} (h : Fit m g l k p) :
  SatH Tryz.prog z7d [.ptr 1000 0] (hpS m g l (k : Int) p) (.tup [.sl .int (goS m k g l p).vals, dI (goS m k g l p).verdict]) (hpS m g (goS m k g l p).learned ((goS m k g l p).fuel : Int) (goS m k g l p).note) :=
 ztw m.vars m.cons m.goal m.var g (k : Int) l p.1 p.2 fun ok ok2 => by
  rw [zsw]
  suffices H : ∀ (k : Nat) (l : List (List LitD)) (p : NoteS), Fit m g l k p → ∀ r, r = goS m k g l p →
    zig (fun d h1 => d = .tup [.sl .int r.vals, dI r.verdict] ∧ h1 = hpS m g r.learned (r.fuel : Int) r.note) (k + 1) m.vars m.cons m.goal m.var g (k : Int) p.2 l p.1 from ⟨_, H k l p h _ rfl⟩
  intro k
  induction k with
  | zero =>
   intro l p h r hr
   rw [zLm, hr]
   exact ⟨rfl, rfl⟩
  | succ k ih =>
   intro l p h r hr
   have hs := h.sea
   have hf := h.fuel
   have hp := h.steps
   have hm2 := h.met
   have hgl := hs.glen
   have hmc := hs.mc
   have hw : w64 (((k + 1 : Nat) : Int) - 1) = (k : Int) := by rw [w64_eq (by omega) (by omega)]; omega
   rw [zLm, hw]
   simp only [dup2_eq, dup3_eq, and_self, -eq_self]
   rw [goS] at hr
   rw [decide_eq_false (show ¬((k + 1 : Nat) : Int) = 0 by omega)]
   refine ⟨_, _, _, zZw hmc (by omega) (by omega), za (fun hd => ?_) fun hd => ?_⟩
   ·rw [if_pos hd] at hr
    rw [hr]; exact ⟨rfl, rfl⟩
   ·rw [if_neg (by rw [hd]; decide)] at hr
    obtain ⟨q1, q2, q3, q4, q5⟩ := z6h hs (by omega) hd
    have hkf : LearnOk m (g ++ l) (fewD m (g ++ l)) := q1.sub zeg
    have hff : failsB m (g ++ l) (fewD m (g ++ l)) = true := z1l q2
    have ht := z9l hkf hff
    have hgl2 : (g ++ l).length ≤ 1000000000 := by rw [List.length_append]; omega
    have hdl := q1.dl
    have hfew := zHv hmc hgl2 (show (downS m (g ++ l)).1.length ≤ 1000000 by omega)
    rw [if_pos q2] at hfew
    have hnv := hmc.right.vars
    have hsz := z7l hmc.right
    refine ⟨_, zbi (by omega) (by omega), call2 (t := .list .lit) (u := .bool) hfew ⟨_, zbi (by omega) (by omega), call1 (t := .list .step) (zOv hkf) ⟨_, _, zXw (by omega) (by omega) (show (traceS m (g ++ l) (fewD m (g ++ l))).length ≤ 1000000 by have := ht.len; omega) (fun st hst => ?_), ?_⟩⟩⟩
    ·obtain ⟨c1, c2⟩ := zgd (ht.cl st hst)
     exact ⟨by omega, fun x hx => litI_of hnv (c2 x hx)⟩
    ·have e0 : noteS (traceS m (g ++ l) (fewest m (g ++ l) (downS m (g ++ l)).1)) p = roundN m (g ++ l) p := rfl
     have e1 : fewest m (g ++ l) (downS m (g ++ l)).1 = fewD m (g ++ l) := rfl
     rw [e0, e1]
     by_cases hf0 : fewD m (g ++ l) = []
     ·rw [if_pos hf0] at hr
      rw [hf0, decide_eq_true (show (([] : List LitD).length : Int) = 0 from rfl), hr]
      exact ⟨rfl, rfl⟩
     ·rw [if_neg hf0] at hr
      have hl0 : (fewD m (g ++ l)).length ≠ 0 := fun e => hf0 (List.length_eq_zero_iff.1 e)
      rw [decide_eq_false (show ¬((fewD m (g ++ l)).length : Int) = 0 by omega)]
      have hfl := hkf.dl
      refine call1 (t := .list .lit) (zcm (by omega) hkf.near) ⟨room_of (t := .list .lit) (by show (l.length + 1) * 24 ≤ _; omega), ?_⟩
      have e2 : (l ++ [(fewD m (g ++ l)).map oppL]).length = l.length + 1 := by simp
      refine za (fun e => ?_) fun e => za (fun e' => ?_) fun e' => ?_
      ·have e : (600 : Int) < ((l ++ [(fewD m (g ++ l)).map oppL]).length : Int) := of_decide_eq_true e
       rw [if_pos (.inl (by omega))] at hr
       rw [hr]; exact ⟨rfl, rfl⟩
      ·have e' : (6000 : Int) < ((roundN m (g ++ l) p).1.length : Int) := of_decide_eq_true e'
       rw [if_pos (.inr (by omega))] at hr
       rw [hr]; exact ⟨rfl, rfl⟩
      ·have e : ¬(600 : Int) < ((l ++ [(fewD m (g ++ l)).map oppL]).length : Int) := of_decide_eq_false e
       have e' : ¬(6000 : Int) < ((roundN m (g ++ l) p).1.length : Int) := of_decide_eq_false e'
       rw [if_neg (by omega)] at hr
       exact ih _ (roundN m (g ++ l) p) ⟨(q5 hf0).1, by omega, by omega, zVm _ _ hm2⟩ r hr
def readyS (m : MdlD) (fuel : Int) : Int := or0 (checkM m) (if fuel < 0 ∨ 300 < fuel then 3 else 0)
theorem z2w (m : MdlD) (fuel : Int) : Sat Tryz.prog z5d [dM m, dI fuel] (dI (readyS m fuel)) :=
 zpw m fuel fun ok => by
  rw [zow]
  refine call1 (zWj m) (za (fun e => ?_) fun e => ?_)
  ·rw [readyS, or0_ne (zbc e)]
  ·rw [readyS, or0_eq (zOc e)]
   refine za (fun f => ?_) fun f => za (fun f' => ?_) fun f' => ?_
   ·rw [if_pos (.inl (of_decide_eq_true f))]
   ·rw [if_pos (.inr (of_decide_eq_true f'))]
   ·have f := of_decide_eq_false f
    have f' := of_decide_eq_false f'
    rw [if_neg (by omega)]
theorem zWm {m : MdlD} {fuel : Int} (h : readyS m fuel = 0) : checkM m = 0 ∧ 0 ≤ fuel ∧ fuel ≤ 300 := by
 obtain ⟨h1, h2⟩ := zMh h
 refine ⟨h1, ?_⟩
 split at h2
 ·cases h2
 ·omega
theorem z3w {m : MdlD} (h : checkM m = 0) {k : Nat} (hk : k ≤ 300) : Fit m [] [] k ([], []) := ⟨.begin h, by simpa using hk, Nat.zero_le _, Nat.le_refl _⟩
noncomputable def solveA (m : MdlD) (fuel : Int) : AnsD := if readyS m fuel = 0 then solveS m fuel.toNat else ⟨0, [], []⟩
theorem zXm (m : MdlD) (fuel : Int) : Sat Tryz.prog zcc [dM m, dI fuel] (.tup [toD .ans (solveA m fuel), dI (readyS m fuel)]) :=
 zlw m fuel fun ok => by
  rw [zkw, solveA]
  refine call1 (z2w m fuel) (za (fun e => ?_) fun e => ?_)
  ·rw [if_neg (zbc e)]; rfl
  ·have e := zOc e
   obtain ⟨h1, h2, h3⟩ := zWm e
   obtain ⟨k, rfl⟩ : ∃ k : Nat, fuel = (k : Int) := ⟨fuel.toNat, by omega⟩
   rw [if_pos e, Int.toNat_natCast, e, solveS]
   have hgo := z1w (z3w h1 (k := k) (by omega))
   have hx := z7h k [] ([], []) (Sea.begin h1) (by simpa using (show k ≤ 300 by omega))
   refine ⟨m, _, zWw m k, _, _, _, _, _, _, hgo, ?_⟩
   generalize goS m k [] [] ([], []) = r at hx ⊢
   refine za (fun f => ?_) fun f => ?_
   ·have f : r.verdict = 2 := of_decide_eq_true f
    rw [if_pos f]
    refine ⟨_, _, zVw (p := r.note), za (fun q => ?_) fun q => ?_⟩
    ·have q : ¬(r.note.1.length : Int) ≤ 6000 := by simpa using q
     rw [if_pos (by omega)]; rfl
    ·have q : (r.note.1.length : Int) ≤ 6000 := by simpa using q
     rw [if_neg (by omega), f]; rfl
   ·have f : ¬r.verdict = 2 := of_decide_eq_false f
    rw [if_neg f]; rfl
end Go.Proofs.YtajnbkhgnppckaaGreatDoor
/- The best: what the program's calls do. -/
namespace Go.Proofs.YtajnbkhgnppckaaGreatDoor
open Go.RowKit
set_option linter.unusedVariables false
set_option linter.unusedSimpArgs false
end Go.Proofs.YtajnbkhgnppckaaGreatDoor
/- The laws of the best. -/
namespace Go.Proofs.YtajnbkhgnppckaaGreatDoor
open Go.RowKit
set_option linter.unusedVariables false
set_option linter.unusedSimpArgs false
theorem z4w : runS twoM true [] (fullS twoM) = [[0, 1], [1, 2]] := runS_B (cons := true) two_mc zc 1 (by kernel_rfl) (by kernel_rfl) (by kernel_rfl)
theorem z5w : runS twoM true [] (keep1 [[0, 1], [1, 2]] 0 0) = [[0], [1, 2]] := runS_B (cons := true) two_mc (by kernel_rfl) 1 (by kernel_rfl) (by kernel_rfl) (by kernel_rfl)
theorem z6w : runS twoM true [] (keep1 [[0], [1, 2]] 1 1) = [[0], [1]] := runS_B (cons := true) two_mc (by kernel_rfl) 1 (by kernel_rfl) (by kernel_rfl) (by kernel_rfl)
theorem z7w : downS twoM ([] ++ []) = ([], true, [0, 1]) := by
 show downF twoM [] 3 (runS twoM true [] (fullS twoM)) [] = _
 rw [z4w, downF, if_neg (by decide), if_neg (by decide)]
 show downF twoM [] 2 (runS twoM true [] (keep1 [[0, 1], [1, 2]] 0 0)) _ = _
 rw [z5w, downF, if_neg (by decide), if_neg (by decide)]
 show downF twoM [] 1 (runS twoM true [] (keep1 [[0], [1, 2]] 1 1)) _ = _
 rw [z6w, downF, if_neg (by decide), if_pos (by decide)]
 rfl
theorem two_go {k : Nat} : goS twoM (k + 1) [] [] ([], []) = ⟨[0, 1], 1, k, [], ([], [])⟩ := by
 rw [goS, z7w, if_pos rfl]
theorem z8w {m : MdlD} {g : List (List LitD)} {t : List StepD} (hg : ∀ c ∈ g, clauseE m.vars.length c = 0) (hgl : g.length ≤ 1) (h : ProofR m g t) (hl : t.length ≤ 6000) : stepsE m g t = 0 := by
 have e1 : firstE (fun _ (s : StepD) => clauseE m.vars.length s.clause) 0 t = 0 := zDc fun _ x hx => h.cl x hx
 have e2 : firstE (fun _ (s : StepD) => stepConF m s) 0 t = 0 := zDc fun _ x hx => by
  rw [stepConF, if_neg]
  rintro ⟨h1, h2⟩
  have := h.con x hx h1
  omega
 have e3 : rightsE m.vars.length g = 0 := by
  rw [rightsE, if_neg (by omega)]
  exact zDc fun _ x hx => hg x hx
 rw [stepsE, if_neg (by omega), e3, e1, e2]; rfl
end Go.Proofs.YtajnbkhgnppckaaGreatDoor
/- Lists of all values of which all holds: what the program's call does, and the document's. -/
namespace Go.Proofs.YtajnbkhgnppckaaGreatDoor
open Go.RowKit
set_option linter.unusedVariables false
set_option linter.unusedSimpArgs false
abbrev hpL (m : MdlD) (out : List (List Int)) : List (Nat × HObj) := [(1000, .cells [.sl .var m.vars, .sl .con m.cons, dI m.goal, dI m.var, .own 2000]), (2000, .row 26 (.list .int) out)]
theorem z9w (s : List (List Int)) (v n : Int) : Sat Tryz.prog zt [dS s, .clo zfe none [.iptr [dI v] 0, .iptr [dI n] 0]] (dS (keep1 s v n)) :=
 zpc (f := fun w k => !decide ((w : Int) = v) || decide (k = n)) zrr fun w hw k hk => zMw w k v n fun ok => by
  rw [zLw]
  refine za (fun e => ?_) fun e => ?_
  ·rw [e]; rfl
  ·rw [e, Bool.false_or]
theorem zax {m : MdlD} (hm : checkM m = 0) : ∀ (k : Nat) (s out : List (List Int)), sizeS s ≤ k → leS s (fullS m) → out.length ≤ 200 →
  SatH Tryz.prog zTc [.ptr 1000 0, dS s] (hpL m out) (dB (decide (out.length + (solsS m s).length ≤ 200))) (hpL m ((out ++ solsS m s).take 200)) := by
 intro k
 induction k using Nat.strongRecOn with
 | _ k ih =>
  intro s out hk hle hout
  have hmc := z1f hm
  have hr := hmc.right
  have hv := hr.vars
  refine zzw m.vars m.cons m.goal m.var out s fun ok ok2 => ?_
  rw [zyw]
  have hs : s.length = m.vars.length := hle.1.trans zc
  refine call1 (zxd hmc (zhb hr (zud zAc hle)) (by decide)) ?_
  rw [← z0v hmc hle]
  have ht := run_le (cons := true) hmc hs
  have htl := run_len (cons := true) hmc hs
  have hsz := ht.size
  have htf := ht.trans hle
  have hst := fun h => zXb (cons := true) hmc hs h
  generalize runS m true [] s = t at ht htl hsz htf hst ⊢
  refine call1 (zo t) (za (fun e => ?_) fun e => ?_)
  ·have e0 : solsS m t = [] := by rw [solsS, z1v e]; rfl
   rw [e0, List.append_nil, List.take_of_length_le hout, decide_eq_true (show out.length + ([] : List (List Int)).length ≤ 200 by simpa using hout)]
   exact ⟨rfl, rfl⟩
  ·have hne := zv.1 e
   refine call1 (zRm t) ?_
   rcases zYh t with ⟨eo, h1⟩ | ⟨v, eo, hv', h1, h2⟩
   ·refine dt (by omega : openI t < 0) ?_
    have hone : ∀ v : Nat, v < t.length → (t.getD v []).length = 1 := fun v hv => by
     have := h1 v
     have := List.length_pos_iff.2 (hne v hv)
     omega
    have hp := zsm hone
    have hin : InS (valsS t) t := zCb.1 (by rw [hp]; exact List.mem_singleton.2 rfl)
    have huniq : ∀ us, InS us t → us = valsS t := fun us hu => by
     have := zCb.2 hu
     rw [hp] at this; exact List.mem_singleton.1 this
    have hw : wholeM m (valsS t) = true := zEm (hin.1.trans htl) (hin.mono htf) fun c hc => by
     have hpos := hmc.pos
     obtain ⟨n, hn⟩ := List.exists_mem_of_ne_nil _ (hne 0 (by omega))
     obtain ⟨us, u1, _, u3⟩ := (zyc hmc hc).congr (Q' := fun _ => true) htl (vs := []) (hst e _ (mem_ops.2 (.inl ⟨rfl, c, hc, rfl⟩))) e 0 n hn
     rw [huniq us u1] at u3; exact u3
    have e0 : solsS m t = [valsS t] := by rw [solsS, hp, List.filter_cons, hw]; rfl
    rw [e0]
    refine za (fun f => ?_) fun f => ?_
    ·have f : (out.length : Int) = 200 := of_decide_eq_true f
     rw [zvm (by omega), List.take_of_length_le (by omega), decide_eq_false (by simp; omega)]
     exact ⟨rfl, rfl⟩
    ·have f : ¬(out.length : Int) = 200 := of_decide_eq_false f
     rw [List.take_of_length_le (by simp; omega), decide_eq_true (by simp; omega)]
     refine up (I := fun n v a => zjg m.vars m.cons m.goal m.var _ t n v a out) (a := []) 0 t.length rfl (Nat.zero_le _) (by omega) (fun k a => a = valsS (t.take k)) rfl fun n j a _ hj ha hn => ?_
     subst ha
     rw [zww]
     by_cases h : j < t.length
     ·have hrow : 0 < t[j].length := List.length_pos_iff.2 (by have := hne j h; rwa [getD_at _ h] at this)
      rw [sel_lt h, at_nat (t := .list .int) h]
      refine ⟨inb_nat h, inb_nat (k := 0) hrow, room_of (t := .int) ?_, hn h _ ?_⟩
      ·rw [valsS, List.length_map, List.length_take]; show (_ + 1) * 8 ≤ _; omega
      ·rw [zUm h]; rfl
     ·have hj' : j = t.length := by omega
      subst hj'
      rw [sel_end, List.take_length]
      exact ⟨room_of (t := .list .int) (by show (out.length + 1) * 24 ≤ _; omega), rfl, rfl⟩
   ·refine df (by omega : ¬openI t < 0) ?_
    rw [eo]
    have hb := z5v (m := m) hv' (z4h htf v) fun w hw => by
     have := h2 w hw
     have := List.length_pos_iff.2 (hne w (by omega))
     omega
    have e1 : at' (.list .int) t (v : Int).toNat = t.getD v [] := by rw [at_nat hv', getD_at _ hv']
    have hrow6 : (t.getD v []).length ≤ 6 := Nat.le_trans (htf.2 v).length_le (zAd hr v)
    refine ⟨inb_nat hv', ?_⟩
    rw [hb]
    have main : ∃ n2, zGd (fun d h1 => d = dB (decide (out.length + ((t.getD v []).flatMap fun n => solsS m (keep1 t v n)).length ≤ 200)) ∧ h1 = hpL m ((out ++ (t.getD v []).flatMap fun n => solsS m (keep1 t v n)).take 200)) t (v : Int) n2 0 m.vars m.cons m.goal m.var out := by
     refine up (I := fun n i a => zGd _ t (v : Int) n i m.vars m.cons m.goal m.var a) (a := out) 0 (t.getD v []).length rfl (Nat.zero_le _) (by omega)
      (fun k a => a = out ++ (((t.getD v []).take k).flatMap fun n => solsS m (keep1 t v n)) ∧ a.length ≤ 200) ⟨by simp, hout⟩ fun n j a _ hj ha hn => ?_
     obtain ⟨ha, hal⟩ := ha
     rw [zxw, e1]
     by_cases h : j < (t.getD v []).length
     ·rw [sel_lt h, at_nat (t := .int) h]
      have hlt : sizeS (keep1 t v (t.getD v [])[j]) < k := by
       refine Nat.lt_of_lt_of_le ((zfb (s := t)).size_lt fun e => ?_) (Nat.le_trans hsz hk)
       have e2 : (keep1 t v (t.getD v [])[j]).getD v [] = t.getD v [] := by rw [keep1, e]
       rw [keep1, zk] at e2
       have e3 := congrArg List.length e2
       have e4 : ((t.getD v []).filter fun k => !decide ((v : Int) = (v : Int)) || decide (k = (t.getD v [])[j])).length ≤ 1 := by
        rw [show (fun k : Int => !decide ((v : Int) = (v : Int)) || decide (k = (t.getD v [])[j])) = fun k => decide (k = (t.getD v [])[j]) by funext k; simp]
        exact zZh (z4h htf v) _
       omega
      have hrec := ih _ hlt (keep1 t v (t.getD v [])[j]) a (Nat.le_refl _) (zfb.trans htf) hal
      have htk : ((t.getD v []).take (j + 1)).flatMap (fun n => solsS m (keep1 t v n)) = ((t.getD v []).take j).flatMap (fun n => solsS m (keep1 t v n)) ++ solsS m (keep1 t v (t.getD v [])[j]) := by
       rw [← List.take_append_getElem h, List.flatMap_append]; simp
      have hall : (t.getD v []).flatMap (fun n => solsS m (keep1 t v n)) = ((t.getD v []).take (j + 1)).flatMap (fun n => solsS m (keep1 t v n)) ++ ((t.getD v []).drop (j + 1)).flatMap (fun n => solsS m (keep1 t v n)) := by
       rw [← List.flatMap_append, List.take_append_drop]
      have hal2 : (a ++ solsS m (keep1 t v (t.getD v [])[j])) = out ++ ((t.getD v []).take (j + 1)).flatMap (fun n => solsS m (keep1 t v n)) := by rw [ha, htk, List.append_assoc]
      refine ⟨inb_nat h, call1 (z9w t v _) ⟨_, _, hrec, za (fun f => ?_) fun f => ?_⟩⟩
      ·have f : ¬a.length + (solsS m (keep1 t v (t.getD v [])[j])).length ≤ 200 := by simpa using f
       have hlen := congrArg List.length hal2
       rw [List.length_append] at hlen
       rw [hall, ← List.append_assoc, ← hal2, zvm (a := a ++ solsS m (keep1 t v (t.getD v [])[j])) (by rw [List.length_append]; omega), decide_eq_false (by
        rw [List.length_append]
        rw [List.length_append] at hlen
        omega)]
       exact ⟨rfl, rfl⟩
      ·have f : a.length + (solsS m (keep1 t v (t.getD v [])[j])).length ≤ 200 := by simpa using f
       rw [List.take_of_length_le (l := a ++ solsS m (keep1 t v (t.getD v [])[j])) (by rw [List.length_append]; exact f)]
       exact hn h _ ⟨hal2, by rw [List.length_append]; exact f⟩
     ·have hj' : j = (t.getD v []).length := by omega
      subst hj'
      rw [List.take_length] at ha
      rw [sel_end, ← ha, List.take_of_length_le hal, decide_eq_true (by
       have := congrArg List.length ha
       rw [List.length_append] at this
       omega)]
      exact ⟨rfl, rfl⟩
    exact main
def listA (m : MdlD) : List (List Int) := if checkM m = 0 then (solsS m (fullS m)).take 200 else []
def listB (m : MdlD) : Bool := orB (checkM m) (decide ((solsS m (fullS m)).length ≤ 200))
theorem zYm (m : MdlD) : Sat Tryz.prog zdc [dM m] (.tup [dS (listA m), dB (listB m), dI (checkM m)]) :=
 znw m fun ok => by
  rw [zmw, listA, listB]
  refine call1 (zWj m) (za (fun e => ?_) fun e => ?_)
  ·rw [if_neg (zbc e), orB1 (zbc e)]
  ·have e := zOc e
   rw [if_pos e, orB0 e, e]
   have h := zax e _ (fullS m) [] (Nat.le_refl _) (leS.refl _) (Nat.zero_le _)
   refine call1 (full_ok (zSb e)) ⟨_, _, h, ?_⟩
   simp
theorem zbx (a b : List (List Int)) : Sat Tryz.prog zQc [dS a, dS b] (dB (decide (a = b))) :=
 zhr a b fun ok => by
  have hl : a.length ≤ 9223372036854775807 := okLen (t := .list .int) (ok1 ok)
  rw [zgr]
  refine za (fun e => ?_) fun e => ?_
  ·rw [decide_eq_false (p := a = b) fun h => by subst h; simp at e]
  have e : a.length = b.length := by simp at e; omega
  have hz : (a.zip b).length = a.length := by rw [List.length_zip]; omega
  refine any0 (I := fun n v => zzf a b _ n v) (a.zip b) (fun x => !decide (x.1 = x.2)) (by omega) (X := dB false = dB (decide (a = b))) (Y := dB true = dB (decide (a = b))) (by rw [zbd a b e]; cases decide (a = b) <;> rfl) (fun n k h hX hn => ?_) fun n hY => ?_
  ·have hk : k < a.length := by omega
   rw [List.getElem_zip] at hX hn
   rw [zOj, sel_lt hk, at_nat (t := .list .int) hk, at_nat (t := .list .int) (show k < b.length by omega)]
   exact ⟨inb_nat hk, inb_nat (by omega), call1 (z2j _ _) (za hX hn)⟩
  ·rw [hz, zOj, sel_end]; exact hY
end Go.Proofs.YtajnbkhgnppckaaGreatDoor
/- Lists of all values of which all holds: the document's counting, and the laws. -/
namespace Go.Proofs.YtajnbkhgnppckaaGreatDoor
open Go.RowKit
set_option linter.unusedVariables false
set_option linter.unusedSimpArgs false
theorem zcx : solsS twoM (fullS twoM) = [[0, 1], [0, 2], [1, 2]] := by kernel_rfl
theorem zdx : Sat Tryz.prog zdc [dM twoM] (.tup [dS [[0, 1], [0, 2], [1, 2]], dB true, dI 0]) := by
 have h := zYm twoM
 have e : checkM twoM = 0 := by kernel_rfl
 rwa [listA, listB, if_pos e, orB0 e, e, zcx] at h
theorem zex : Sat Tryz.prog zcc [dM twoM, dI 9] (.tup [toD .ans ⟨1, [0, 1], []⟩, dI 0]) := by
 have h := zXm twoM 9
 have e : readyS twoM 9 = 0 := by kernel_rfl
 have e2 : solveS twoM 9 = ⟨1, [0, 1], []⟩ := by rw [solveS, two_go (k := 8), if_neg (by decide)]
 rw [solveA, if_pos e, e] at h
 rw [← e2]; exact h
theorem zfx : Sat Tryz.prog zQc [dS [[0, 1], [0, 2], [1, 2]], dS [[0, 1], [0, 2], [1, 2]]] (dB true) := by
 have h := zbx [[0, 1], [0, 2], [1, 2]] [[0, 1], [0, 2], [1, 2]]
 rwa [decide_eq_true rfl] at h
theorem zgx : Sat Tryz.prog z4d [] (dB true) :=
 zbs fun ok => by
  rw [zas]
  exact call1 (t := .mdl) z5j (call2 (t := .ans) (u := .int) zex (call1 (t := .mdl) z5j (call3 (t := .list (.list .int)) (u := .bool) (v := .int) zdx (dt rfl (dt rfl (dt rfl (dt rfl (bt rfl (call1 (t := .bool) zfx rfl)))))))))
theorem zhx {m : MdlD} {fuel : Int} (h : readyS m fuel = 0) : checkM m = 0 ∧ ∃ k : Nat, fuel = k ∧ solveA m fuel = solveS m k ∧ SolveX m k (solveA m fuel) := by
 obtain ⟨h1, h2, h3⟩ := zWm h
 obtain ⟨k, rfl⟩ : ∃ k : Nat, fuel = (k : Int) := ⟨fuel.toNat, by omega⟩
 have e : solveA m (k : Int) = solveS m k := by rw [solveA, if_pos h, Int.toNat_natCast]
 exact ⟨h1, k, rfl, e, by rw [e]; exact zhw h1 (by omega)⟩
theorem zix {m : MdlD} (hm : checkM m = 0) {p : List StepD} (h : ProofR m [] p) (hl : p.length ≤ 6000) : solsS m (fullS m) = [] := by
 have hst := z8w (g := []) (fun c hc => (by cases hc)) (by decide) h hl
 refine List.eq_nil_iff_forall_not_mem.2 fun vs hv => ?_
 obtain ⟨h1, h2⟩ := (zum (z1f hm)).1 hv
 have := zOu (zLu hm hst) h1 h2 fun c hc => (by cases hc)
 rw [h.right] at this; cases this
theorem zjx (m : MdlD) (fuel : Int) : Sat Tryz.prog z6i [dM m, dI fuel] (dB true) :=
 z9r m fuel fun ok => by
  rw [z8r]
  refine call2 (t := .ans) (u := .int) (zXm m fuel) (call3 (t := .list (.list .int)) (u := .bool) (v := .int) (zYm m) (call1 (t := .bool) zgx (bnf rfl ?_)))
  by_cases e : readyS m fuel = 0
  ·obtain ⟨hm, k, rfl, _, hx⟩ := zhx e
   refine dnf e (dnf hm ?_)
   rw [listA, listB, if_pos hm, orB0 hm]
   cases hx with
   | none q1 q2 q3 q4 =>
    rw [zix hm q3 q4]
    exact dt q1 (dt rfl rfl)
   | unknown q1 q2 q3 q4 => exact df (by rw [q1]; decide) (df (by rw [q1]; decide) rfl)
   | found q1 q2 q3 =>
    refine df (by rw [q1]; decide) (dt q1 ?_)
    have hmem : (solveA m (k : Int)).values ∈ solsS m (fullS m) := (zum (z1f hm)).2 ⟨q2.len, q2.whole⟩
    generalize hX : (solsS m (fullS m)).take 200 = xs
    have hxl : xs.length ≤ 200 := by rw [← hX, List.length_take]; omega
    refine up0 (I := fun n v => zDf _ _ xs _ n v) 0 xs.length rfl (Nat.zero_le _) (by omega) (fun j => ∀ i (h : i < xs.length), i < j → xs[i] ≠ (solveA m (k : Int)).values) (fun i h h' => by omega) fun n j _ hj ha hn => ?_
    rw [z7r]
    by_cases h : j < xs.length
    ·rw [sel_lt h, at_nat (t := .list .int) h]
     refine ⟨inb_nat h, call1 (t := .bool) (z2j _ _) (za (fun _ => rfl) fun f => hn h fun i hi hij => ?_)⟩
     have f : ¬xs[j] = (solveA m (k : Int)).values := of_decide_eq_false f
     by_cases hi' : i = j
     ·subst hi'; exact f
     ·exact ha i hi (by omega)
    ·have hj' : j = xs.length := by omega
     subst hj'
     rw [sel_end]
     have hlong : ¬(solsS m (fullS m)).length ≤ 200 := fun hle => by
      rw [List.take_of_length_le hle] at hX
      rw [hX] at hmem
      obtain ⟨i, hi, hie⟩ := List.getElem_of_mem hmem
      exact ha i hi hi hie
     rw [decide_eq_false hlong]; rfl
  ·exact dnt e rfl
end Go.Proofs.YtajnbkhgnppckaaGreatDoor
