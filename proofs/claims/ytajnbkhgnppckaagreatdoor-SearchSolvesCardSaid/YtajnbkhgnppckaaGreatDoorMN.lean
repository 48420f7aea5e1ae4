/- Texts of this proof, one behind the other: nothing is handed in but what is proved here; no condition. -/
import Derived.Test.YtajnbkhgnppckaaGreatDoorML
import Derived.Test.YtajnbkhgnppckaaGreatDoorMK
import Derived.Test.YtajnbkhgnppckaaGreatDoorWSearch
import Derived.Test.YtajnbkhgnppckaaGreatDoorWBest
import Derived.Test.YtajnbkhgnppckaaGreatDoorWCordonlaw
import Derived.Test.YtajnbkhgnppckaaGreatDoorWCordonref
/- Searches: what the program's calls do. -/
namespace Go.Proofs.YtajnbkhgnppckaaGreatDoor
open Go.RowKit
set_option linter.unusedVariables false
set_option linter.unusedSimpArgs false
abbrev hpS (m : MdlD) (g l : List (List LitD)) (fuel : Int) (p : NoteS) : List (Nat × HObj) := [(1000, .cells [.sl .var m.vars, .sl .con m.cons, dI m.goal, dI m.var, .sl (.list .lit) g, dI fuel, .own 2000, .own 2001, .own 1001]), (2000, .row 47 (.list .lit) l), (2001, .row 71 .step p.1), (1001, .mp .str .int p.2)]
def LitI (x : LitD) : Prop := inI64 x.var ∧ inI64 x.op ∧ inI64 x.n
theorem litI_of {nv : Nat} {x : LitD} (hn : nv ≤ 6) (h : litE nv x = 0) : LitI x := by
 obtain ⟨h1, h2, h3⟩ := zJ.1 h
 exact ⟨by unfold inI64; omega, by unfold inI64; omega, by unfold inI64; omega⟩
theorem zXB (c : List LitD) (x : LitD) : keyC (c ++ [x]) = keyC c ++ litK x := by rw [keyC, List.foldl_append]; rfl
theorem zYB : ∀ {c : List LitD}, (∀ x ∈ c, LitI x) → (keyC c).size ≤ c.length * 66 := fun {c} => by
 suffices H : ∀ (c : List LitD) (o : ByteArray), (∀ x ∈ c, LitI x) → (c.foldl (fun o x => o ++ litK x) o).size ≤ o.size + c.length * 66 from fun h => by
  have := H c ⟨#[]⟩ h
  rw [keyC]
  have e : (⟨#[]⟩ : ByteArray).size = 0 := rfl
  omega
 intro c
 induction c with
 | nil => exact fun o _ => by simp
 | cons x c ih =>
  intro o h
  have h1 := ih (o ++ litK x) fun y hy => h y (List.mem_cons_of_mem _ hy)
  obtain ⟨a, b, d⟩ := h x (List.mem_cons_self ..)
  have h2 := zoB a b d
  rw [ByteArray.size_append] at h1
  rw [List.foldl_cons, List.length_cons]
  omega
theorem zZB {c : List LitD} (hl : c.length ≤ 1000000) (hr : ∀ x ∈ c, LitI x) : Sat Tryz.prog zHf [.sl .lit c] (.str (keyC c)) :=
 zWB c fun ok => by
  rw [zVB]
  refine up (I := fun n v a => zDi c _ n a v) 0 c.length rfl (Nat.zero_le _) (by omega) (fun k a => a = keyC (c.take k)) rfl fun n k a _ hk ha hn => ?_
  subst ha
  rw [zUB]
  by_cases h : k < c.length
  ·rw [sel_lt h, at_nat (t := .lit) h]
   obtain ⟨h1, h2, h3⟩ := hr _ (List.getElem_mem h)
   have s1 := zKc h1; have s2 := zKc h2; have s3 := zKc h3
   have s0 := zYB (c := c.take k) fun x hx => hr x (List.mem_of_mem_take hx)
   rw [List.length_take] at s0
   have z58 : (⟨#[58]⟩ : ByteArray).size = 1 := rfl
   have z32 : (⟨#[32]⟩ : ByteArray).size = 1 := rfl
   refine ⟨inb_nat h, call1 (t := .str) (itoa_ok h1) ⟨by omega, call1 (t := .str) (itoa_ok h2) ⟨?_, ?_, call1 (t := .str) (itoa_ok h3) ⟨?_, ?_, ?_, ?_⟩⟩⟩⟩
   ·rw [ByteArray.size_append]; omega
   ·simp only [ByteArray.size_append]; omega
   ·simp only [ByteArray.size_append]; omega
   ·simp only [ByteArray.size_append]; omega
   ·simp only [ByteArray.size_append]; omega
   ·refine hn h _ ?_
    rw [← List.take_append_getElem h, zXB]; rfl
  ·have hk' : k = c.length := by omega
   subst hk'
   rw [sel_end, List.take_length]
theorem zdq (s : List (List Int)) : Sat Tryz.prog zUd [dS s] (dI (openI s)) :=
 zPB s fun ok => by
  rw [zOB]
  refine seek (t := .list .int) (p := fun r : List Int => decide (1 < r.length)) (R := fun d => d = dI (openI s)) (okLen (t := .list .int) (ok1 ok)) rfl (fun n k h h1 h2 => ?_) fun n hR => ?_
  ·rw [zaq, sel_lt h, at_nat (t := .list .int) h]
   refine ⟨inb_nat h, za (fun e => h1 ?_) fun e => h2 ?_⟩
   ·have e : (1 : Int) < (s[k].length : Int) := of_decide_eq_true e
    exact decide_eq_true (by omega)
   ·have e : ¬(1 : Int) < (s[k].length : Int) := of_decide_eq_false e
    exact decide_eq_false (by omega)
  ·rw [zaq, sel_end]; exact hR
theorem zDk {m : MdlD} {g l : List (List LitD)} {fuel : Int} {p : NoteS} (hg : g.length ≤ 1000000) (hl : l.length ≤ 1000000) : SatH Tryz.prog zYc [.ptr 1000 0] (hpS m g l fuel p) (.sl (.list .lit) (g ++ l)) (hpS m g l fuel p) :=
 zKB m.vars m.cons m.goal m.var g fuel l p.1 p.2 fun ok ok2 => by
  rw [zJB]
  simp only [dup2_eq, dup3_eq, and_self, -eq_self]
  refine ⟨room_of (t := .list .lit) ?_, room_of (t := .list .lit) ?_, rfl, rfl⟩
  ·show (0 + g.length) * 24 ≤ _; omega
  ·rw [List.nil_append]; show (g.length + l.length) * 24 ≤ _; omega
theorem z0B {m : MdlD} {g l : List (List LitD)} {fuel : Int} {p : NoteS} : SatH Tryz.prog znf [.ptr 1000 0] (hpS m g l fuel p) (.tup [.sl .step p.1, dB (decide ((p.1.length : Int) ≤ 6000))]) [(1000, .cells [.sl .var m.vars, .sl .con m.cons, dI m.goal, dI m.var, .sl (.list .lit) g, dI fuel, .own 2000, .sl .step p.1, .own 1001]), (2000, .row 47 (.list .lit) l), (1001, .mp .str .int p.2)] :=
 zAB m.vars m.cons m.goal m.var g fuel l p.1 p.2 fun ok ok2 => by
  rw [zzB]
  exact ⟨rfl, rfl⟩
theorem z1B (m : MdlD) (fuel : Int) : SatH Tryz.prog zlf [dM m, dI fuel] [] (.ptr 3000 0) [(3000, .cells [.sl .var m.vars, .sl .con m.cons, dI m.goal, dI m.var, .sl (.list .lit) [], dI fuel, .nil, .nil, .own 3001]), (3001, .mp .str .int [])] :=
 zwB m fuel fun ok ok2 => by
  rw [zvB]
  exact ⟨rfl, rfl⟩
theorem zeq {p : NoteS} {st : StepD} : (note1 p st).1.length ≤ p.1.length + 1 ∧ (note1 p st).2.length ≤ p.2.length + 1 := by
 unfold note1
 split
 ·refine ⟨by simp, ?_⟩
  show (mput .str .int (keyC st.clause) 1 p.2).length ≤ _
  generalize p.2 = es
  induction es with
  | nil => exact Nat.le_refl _
  | cons e es ih =>
   obtain ⟨a, b⟩ := e
   show (bif keq .str (keyC st.clause) a then (a, (1 : Int)) :: es else (a, b) :: mput .str .int (keyC st.clause) 1 es).length ≤ _
   cases keq .str (keyC st.clause) a
   ·rw [cond_false, List.length_cons, List.length_cons]; omega
   ·rw [cond_true, List.length_cons, List.length_cons]; omega
 ·omega
theorem zfq : ∀ (t : List StepD) (p : NoteS), (noteS t p).1.length ≤ p.1.length + t.length ∧ (noteS t p).2.length ≤ p.2.length + t.length
 | [], p => ⟨Nat.le_refl _, Nat.le_refl _⟩
 | st :: t, p => by
  have h1 := zeq (p := p) (st := st)
  have h2 := zfq t (note1 p st)
  show (noteS t (note1 p st)).1.length ≤ _ ∧ (noteS t (note1 p st)).2.length ≤ _
  rw [List.length_cons]; omega
theorem z2B {m : MdlD} {g l : List (List LitD)} {fuel : Int} {p : NoteS} {t : List StepD} (h1 : p.1.length ≤ 1000000) (h2 : p.2.length ≤ 1000000) (ht : t.length ≤ 1000000) (hc : ∀ st ∈ t, st.clause.length ≤ 1000000 ∧ ∀ x ∈ st.clause, LitI x) :
  SatH Tryz.prog zuf [.ptr 1000 0, .sl .step t] (hpS m g l fuel p) (.tup []) (hpS m g l fuel (noteS t p)) :=
 zNB m.vars m.cons m.goal m.var g fuel l p.1 p.2 t fun ok ok2 => by
  rw [zMB]
  refine up (I := fun n v (a : NoteS) => zEd t _ n v m.vars m.cons m.goal m.var g fuel a.2 l a.1) (a := p) 0 t.length rfl (Nat.zero_le _) (by omega) (fun k a => a = noteS (t.take k) p) rfl fun n k a _ hk ha hn => ?_
  subst ha
  show zEd t _ _ _ _ _ _ _ _ _ (noteS (t.take k) p).2 _ (noteS (t.take k) p).1
  rw [zLB]
  by_cases h : k < t.length
  ·rw [sel_lt h, at_nat (t := .step) h]
   obtain ⟨c1, c2⟩ := hc _ (List.getElem_mem h)
   have hs : noteS (t.take (k + 1)) p = note1 (noteS (t.take k) p) t[k] := by
    rw [← List.take_append_getElem h]; exact List.foldl_append ..
   obtain ⟨n1, n2⟩ := zfq (t.take k) p
   rw [List.length_take] at n1 n2
   refine ⟨inb_nat h, call1 (t := .str) (zZB c1 c2) (za (fun e => ?_) fun e => ?_)⟩
   ·have e : metK t[k].clause (noteS (t.take k) p).2 = 0 := of_decide_eq_true e
    refine ⟨decide_eq_true (by omega), room_of (t := .step) (by show ((noteS (t.take k) p).1.length + 1) * 40 ≤ _; omega), hn h (_, _) ?_⟩
    rw [hs, note1, if_pos e]
   ·have e : ¬metK t[k].clause (noteS (t.take k) p).2 = 0 := of_decide_eq_false e
    refine hn h _ ?_
    rw [hs, note1, if_neg e]
  ·have hk' : k = t.length := by omega
   subst hk'
   rw [sel_end, List.take_length]
   exact ⟨rfl, rfl⟩
end Go.Proofs.YtajnbkhgnppckaaGreatDoor
/- Searches: the way down, the rounds, and what is answered. -/
namespace Go.Proofs.YtajnbkhgnppckaaGreatDoor
open Go.RowKit
set_option linter.unusedVariables false
set_option linter.unusedSimpArgs false
theorem zgq {s : List (List Int)} {k : Nat} (h : k < s.length) : valsS (s.take (k + 1)) = valsS (s.take k) ++ [s[k].getD 0 0] := by
 rw [valsS, ← List.take_append_getElem h, List.map_append]; rfl
theorem z3B (s : List (List Int)) (v n : Int) (x : LitD) (hx : x.n = n) : Sat Tryz.prog zG [dS s, .clo zEf none [.iptr [dI v] 0, .iptr (cells .lit x) 0]] (dS (keep1 s v n)) :=
 zhd (f := fun w k => !decide ((w : Int) = v) || decide (k = n)) zbw fun w hw k hk => zTB w k v x fun ok => by
  rw [zSB]
  refine za (fun e => ?_) fun e => ?_
  ·rw [e]; rfl
  ·rw [e, Bool.false_or, hx]
theorem z4B {m : MdlD} {g l : List (List LitD)} {fuel : Int} {p : NoteS} (hmc : RightMC m (g ++ l)) (hg : g.length ≤ 1000000) (hl : l.length ≤ 1000000) :
  SatH Tryz.prog zsf [.ptr 1000 0] (hpS m g l fuel p) (.tup [.slN .lit (downS m (g ++ l)).1 (downS m (g ++ l)).2.1, .sl .int (downS m (g ++ l)).2.2]) (hpS m g l fuel p) :=
 zIB m.vars m.cons m.goal m.var g fuel l p.1 p.2 fun ok ok2 => by
  rw [zHB]
  have hr := hmc.right
  have hv := hr.vars
  refine ⟨_, zDk hg hl, call1 (full_ok hr) (call1 (zOe hmc (ztb hr zxd) (by rw [List.length_append]; omega)) ?_)⟩
  generalize hL : g ++ l = L at hmc ⊢
  suffices H : ∀ (k : Nat) (d : List LitD), WayR m L d → m.vars.length + 1 ≤ k + d.length → ∀ r, r = downF m L k (fixD m L d) d →
    zAi p.2 (fun d h1 => d = .tup [.slN .lit r.1 r.2.1, .sl .int r.2.2] ∧ h1 = hpS m g l fuel p) L k (fixD m L d) d m.vars m.cons m.goal m.var g fuel l p.1 from ⟨_, H (m.vars.length + 1) [] .nil (by simp) _ rfl⟩
  intro k
  induction k with
  | zero => exact fun d hc hk => absurd hc.len (by omega)
  | succ k ih =>
   intro d hc hk r hr'
   rw [zGB]
   simp only [dup2_eq, dup3_eq, and_self, -eq_self]
   rw [downF] at hr'
   have hlen : (fixD m L d).length = m.vars.length := zCd hmc
   refine call1 (zv _) (za (fun e => ?_) fun e => ?_)
   ·have hf : failS (fixD m L d) = false := by simpa using e
    rw [if_neg (by rw [hf]; decide)] at hr'
    refine call1 (zdq _) ?_
    rcases zpk (fixD m L d) with ⟨eo, h1⟩ | ⟨v, eo, hv', h1, h2⟩
    ·rw [if_pos (by omega)] at hr'
     rw [decide_eq_true (show openI (fixD m L d) < 0 by omega), hr']
     have hne := zy.1 hf
     refine up (I := fun n v a => zzi p.2 _ k (fixD m L d) m.vars m.cons m.goal m.var g fuel n v a l p.1) (a := []) 0 (fixD m L d).length rfl (Nat.zero_le _) (by omega) (fun k a => a = valsS ((fixD m L d).take k)) rfl fun n j a _ hj ha hn => ?_
     subst ha
     rw [zFB]
     by_cases h : j < (fixD m L d).length
     ·have hrow : 0 < (fixD m L d)[j].length := List.length_pos_iff.2 (by have := hne j h; rwa [getD_at _ h] at this)
      rw [sel_lt h, at_nat (t := .list .int) h]
      refine ⟨inb_nat h, inb_nat (k := 0) hrow, room_of (t := .int) ?_, hn h _ ?_⟩
      ·rw [valsS, List.length_map, List.length_take]; show (_ + 1) * 8 ≤ _; omega
      ·rw [zgq h]; rfl
     ·have hj' : j = (fixD m L d).length := by omega
      subst hj'
      rw [sel_end, List.take_length]
      exact ⟨rfl, rfl⟩
    ·rw [if_neg (by omega), eo, Int.toNat_natCast, zwi hmc hf] at hr'
     rw [eo, decide_eq_false (show ¬(v : Int) < 0 by omega)]
     have hvn : v < m.vars.length := by omega
     have hc' := hc.step hmc hf hvn eo h1 h2
     have e1 : at' (.list .int) (fixD m L d) (v : Int).toNat = (fixD m L d).getD v [] := by rw [at_nat hv', getD_at _ hv']
     have e2 : at' .int ((fixD m L d).getD v []) 0 = ((fixD m L d).getD v []).getD 0 0 := rfl
     rw [e1, e2]
     refine ⟨inb_nat hv', inb_nat (k := 0) (by omega), room_of (t := .lit) ?_, call1 (z3B _ _ _ ⟨v, 3, ((fixD m L d).getD v []).getD 0 0⟩ rfl) (call1 (zOe hmc ?_ (by rw [← hL, List.length_append]; omega)) ?_)⟩
     ·have := hc.len
      show (d.length + 1) * 24 ≤ _; omega
     ·exact ztb hr (ztd zxd (zKb.trans (zIc hmc)))
     ·rw [zwi hmc hf]
      exact ih _ hc' (by rw [List.length_append, List.length_singleton]; omega) r hr'
   ·have hf : failS (fixD m L d) = true := by simpa using e
    rw [if_pos hf] at hr'
    rw [hr']
    exact ⟨rfl, rfl⟩
structure Fit (m : MdlD) (g l : List (List LitD)) (k : Nat) (p : NoteS) : Prop where
 sea : Sea m g l p
 fuel : l.length + k ≤ 300
 steps : p.1.length ≤ 6000
 met : p.2.length ≤ p.1.length
theorem z5B {p : NoteS} {st : StepD} (h : p.2.length ≤ p.1.length) : (note1 p st).2.length ≤ (note1 p st).1.length := by
 have h1 := (zeq (p := p) (st := st)).2
 by_cases e : metK st.clause p.2 = 0
 ·have h2 : (note1 p st).1.length = p.1.length + 1 := by rw [note1, if_pos e]; simp
  omega
 ·rw [note1, if_neg e]; exact h
theorem zhq : ∀ (t : List StepD) (p : NoteS), p.2.length ≤ p.1.length → (noteS t p).2.length ≤ (noteS t p).1.length
 | [], p, h => h
 | st :: t, p, h => zhq t (note1 p st) (z5B h)
theorem z6B {m : MdlD} {g l : List (List LitD)} {k : Nat} {p : NoteS} (h : Fit m g l k p) :
  SatH Tryz.prog zmf [.ptr 1000 0] (hpS m g l (k : Int) p) (.tup [.sl .int (goS m k g l p).vals, dI (goS m k g l p).verdict]) (hpS m g (goS m k g l p).learned ((goS m k g l p).fuel : Int) (goS m k g l p).note) :=
 zyB m.vars m.cons m.goal m.var g (k : Int) l p.1 p.2 fun ok ok2 => by
  rw [zxB]
  suffices H : ∀ (k : Nat) (l : List (List LitD)) (p : NoteS), Fit m g l k p → ∀ r, r = goS m k g l p →
    zxi (fun d h1 => d = .tup [.sl .int r.vals, dI r.verdict] ∧ h1 = hpS m g r.learned (r.fuel : Int) r.note) (k + 1) m.vars m.cons m.goal m.var g (k : Int) p.2 l p.1 from ⟨_, H k l p h _ rfl⟩
  intro k
  induction k with
  | zero =>
   intro l p h r hr
   rw [z7p, hr]
   exact ⟨rfl, rfl⟩
  | succ k ih =>
   intro l p h r hr
   have hs := h.sea
   have hf := h.fuel
   have hp := h.steps
   have hm2 := h.met
   have hgl := hs.glen
   have hmc := hs.mc
   have hw : w64 (((k + 1 : Nat) : Int) - 1) = (k : Int) := by rw [w64_eq (by omega) (by omega)]; omega
   rw [z7p, hw]
   simp only [dup2_eq, dup3_eq, and_self, -eq_self]
   rw [goS] at hr
   rw [decide_eq_false (show ¬((k + 1 : Nat) : Int) = 0 by omega)]
   refine ⟨_, _, _, z4B hmc (by omega) (by omega), za (fun hd => ?_) fun hd => ?_⟩
   ·rw [if_pos hd] at hr
    rw [hr]; exact ⟨rfl, rfl⟩
   ·rw [if_neg (by rw [hd]; decide)] at hr
    obtain ⟨q1, q2, q3, q4, q5⟩ := zyk hs (by omega) hd
    have hkf : LearnOk m (g ++ l) (fewD m (g ++ l)) := q1.sub zti
    have hff : failsB m (g ++ l) (fewD m (g ++ l)) = true := zpp q2
    have ht := zxp hkf hff
    have hgl2 : (g ++ l).length ≤ 1000000000 := by rw [List.length_append]; omega
    have hdl := q1.dl
    have hfew := zMA hmc hgl2 (show (downS m (g ++ l)).1.length ≤ 1000000 by omega)
    rw [if_pos q2] at hfew
    have hnv := hmc.right.vars
    have hsz := zvp hmc.right
    refine ⟨_, zDk (by omega) (by omega), call2 (t := .list .lit) (u := .bool) hfew ⟨_, zDk (by omega) (by omega), call1 (t := .list .step) (zTA hkf) ⟨_, _, z2B (by omega) (by omega) (show (traceS m (g ++ l) (fewD m (g ++ l))).length ≤ 1000000 by have := ht.len; omega) (fun st hst => ?_), ?_⟩⟩⟩
    ·obtain ⟨c1, c2⟩ := zld (ht.cl st hst)
     exact ⟨by omega, fun x hx => litI_of hnv (c2 x hx)⟩
    ·have e0 : noteS (traceS m (g ++ l) (fewest m (g ++ l) (downS m (g ++ l)).1)) p = roundN m (g ++ l) p := rfl
     have e1 : fewest m (g ++ l) (downS m (g ++ l)).1 = fewD m (g ++ l) := rfl
     rw [e0, e1]
     by_cases hf0 : fewD m (g ++ l) = []
     ·rw [if_pos hf0] at hr
      rw [hf0, decide_eq_true (show (([] : List LitD).length : Int) = 0 from rfl), hr]
      exact ⟨rfl, rfl⟩
     ·rw [if_neg hf0] at hr
      have hl0 : (fewD m (g ++ l)).length ≠ 0 := fun e => hf0 (List.length_eq_zero_iff.1 e)
      rw [decide_eq_false (show ¬((fewD m (g ++ l)).length : Int) = 0 by omega)]
      have hfl := hkf.dl
      refine call1 (t := .list .lit) (zAp (by omega) hkf.near) ⟨room_of (t := .list .lit) (by show (l.length + 1) * 24 ≤ _; omega), ?_⟩
      have e2 : (l ++ [(fewD m (g ++ l)).map oppL]).length = l.length + 1 := by simp
      refine za (fun e => ?_) fun e => za (fun e' => ?_) fun e' => ?_
      ·have e : (600 : Int) < ((l ++ [(fewD m (g ++ l)).map oppL]).length : Int) := of_decide_eq_true e
       rw [if_pos (.inl (by omega))] at hr
       rw [hr]; exact ⟨rfl, rfl⟩
      ·have e' : (6000 : Int) < ((roundN m (g ++ l) p).1.length : Int) := of_decide_eq_true e'
       rw [if_pos (.inr (by omega))] at hr
       rw [hr]; exact ⟨rfl, rfl⟩
      ·have e : ¬(600 : Int) < ((l ++ [(fewD m (g ++ l)).map oppL]).length : Int) := of_decide_eq_false e
       have e' : ¬(6000 : Int) < ((roundN m (g ++ l) p).1.length : Int) := of_decide_eq_false e'
       rw [if_neg (by omega)] at hr
       exact ih _ (roundN m (g ++ l) p) ⟨(q5 hf0).1, by omega, by omega, zhq _ _ hm2⟩ r hr
def readyS (m : MdlD) (fuel : Int) : Int := or0 (checkM m) (if fuel < 0 ∨ 300 < fuel then 3 else 0)
theorem z7B (m : MdlD) (fuel : Int) : Sat Tryz.prog zkf [dM m, dI fuel] (dI (readyS m fuel)) :=
 zuB m fuel fun ok => by
  rw [ztB]
  refine call1 (zpe m) (za (fun e => ?_) fun e => ?_)
  ·rw [readyS, or0_ne (zE e)]
  ·rw [readyS, or0_eq (zr e)]
   refine za (fun f => ?_) fun f => za (fun f' => ?_) fun f' => ?_
   ·rw [if_pos (.inl (of_decide_eq_true f))]
   ·rw [if_pos (.inr (of_decide_eq_true f'))]
   ·have f := of_decide_eq_false f
    have f' := of_decide_eq_false f'
    rw [if_neg (by omega)]
theorem ziq {m : MdlD} {fuel : Int} (h : readyS m fuel = 0) : checkM m = 0 ∧ 0 ≤ fuel ∧ fuel ≤ 300 := by
 obtain ⟨h1, h2⟩ := zdk h
 refine ⟨h1, ?_⟩
 split at h2
 ·cases h2
 ·omega
theorem z8B {m : MdlD} (h : checkM m = 0) {k : Nat} (hk : k ≤ 300) : Fit m [] [] k ([], []) := ⟨.begin h, by simpa using hk, Nat.zero_le _, Nat.le_refl _⟩
noncomputable def solveA (m : MdlD) (fuel : Int) : AnsD := if readyS m fuel = 0 then solveS m fuel.toNat else ⟨0, [], []⟩
theorem zjq (m : MdlD) (fuel : Int) : Sat Tryz.prog zWc [dM m, dI fuel] (.tup [toD .ans (solveA m fuel), dI (readyS m fuel)]) :=
 zqB m fuel fun ok => by
  rw [zpB, solveA]
  refine call1 (z7B m fuel) (za (fun e => ?_) fun e => ?_)
  ·rw [if_neg (zE e)]; rfl
  ·have e := zr e
   obtain ⟨h1, h2, h3⟩ := ziq e
   obtain ⟨k, rfl⟩ : ∃ k : Nat, fuel = (k : Int) := ⟨fuel.toNat, by omega⟩
   rw [if_pos e, Int.toNat_natCast, e, solveS]
   have hgo := z6B (z8B h1 (k := k) (by omega))
   have hx := zzk k [] ([], []) (Sea.begin h1) (by simpa using (show k ≤ 300 by omega))
   refine ⟨m, _, z1B m k, _, _, _, _, _, _, hgo, ?_⟩
   generalize goS m k [] [] ([], []) = r at hx ⊢
   refine za (fun f => ?_) fun f => ?_
   ·have f : r.verdict = 2 := of_decide_eq_true f
    rw [if_pos f]
    refine ⟨_, _, z0B (p := r.note), za (fun q => ?_) fun q => ?_⟩
    ·have q : ¬(r.note.1.length : Int) ≤ 6000 := by simpa using q
     rw [if_pos (by omega)]; rfl
    ·have q : (r.note.1.length : Int) ≤ 6000 := by simpa using q
     rw [if_neg (by omega), f]; rfl
   ·have f : ¬r.verdict = 2 := of_decide_eq_false f
    rw [if_neg f]; rfl
end Go.Proofs.YtajnbkhgnppckaaGreatDoor
/- The best: what the program's calls do. -/
namespace Go.Proofs.YtajnbkhgnppckaaGreatDoor
open Go.RowKit
set_option linter.unusedVariables false
set_option linter.unusedSimpArgs false
end Go.Proofs.YtajnbkhgnppckaaGreatDoor
/- The laws of the best. -/
namespace Go.Proofs.YtajnbkhgnppckaaGreatDoor
open Go.RowKit
set_option linter.unusedVariables false
set_option linter.unusedSimpArgs false
theorem zkq {s : List (List Int)} {k : Nat} (h : k < s.length) : numS (s.take (k + 1)) = numS (s.take k) * s[k].length := by
 rw [← List.take_append_getElem h, zsk]
 simp [numS]
theorem z9B {s : List (List Int)} (h : ∀ r ∈ s, r.length ≤ 6) : numS s ≤ 6 ^ s.length := by
 induction s with
 | nil => exact Nat.le_refl _
 | cons r s ih =>
  rw [numS, List.length_cons, Nat.pow_succ, Nat.mul_comm]
  exact Nat.mul_le_mul (ih fun x hx => h x (List.mem_cons_of_mem _ hx)) (h r (List.mem_cons_self ..))
theorem zaC {m : MdlD} (hr : Right m) : ∀ r ∈ fullS m, r.length ≤ 6 := fun r hx => by
 obtain ⟨i, hi, rfl⟩ := List.getElem_of_mem hx
 have := zyd hr i
 rwa [getD_at _ hi] at this
theorem zbC {m : MdlD} (hr : Right m) : Sat Tryz.prog zXb [dM m] (dI (numS (fullS m) : Int)) :=
 zAu m fun ok => by
  rw [zzu]
  have hv := hr.vars
  refine up (I := fun n v a => zdh m _ n a v) 0 m.vars.length rfl (Nat.zero_le _) (by omega) (fun k a => a = (numS ((fullS m).take k) : Int)) rfl fun n k a _ hk ha hn => ?_
  subst ha
  rw [zyu]
  by_cases h : k < m.vars.length
  ·have hf : k < (fullS m).length := by rw [zd]; exact h
   have hb := hr.var _ (List.getElem_mem h)
   have hlen : ((fullS m)[k].length : Int) = m.vars[k].hi - m.vars[k].lo + 1 := by
    have : (fullS m)[k] = fullV m.vars[k] := by simp [fullS]
    rw [this, fullV, zbc]; omega
   have hbd : numS ((fullS m).take (k + 1)) ≤ 46656 := by
    have h1 := z9B (s := (fullS m).take (k + 1)) fun r hx => zaC hr r (List.mem_of_mem_take hx)
    have h2 : ((fullS m).take (k + 1)).length ≤ 6 := by rw [List.length_take, zd]; omega
    exact Nat.le_trans h1 (Nat.le_trans (Nat.pow_le_pow_right (by decide) h2) (by decide))
   rw [zkq hf] at hbd
   rw [sel_lt h, at_nat (t := .var) h, w64_eq (n := m.vars[k].hi - m.vars[k].lo) (by omega) (by omega), w64_eq (n := m.vars[k].hi - m.vars[k].lo + 1) (by omega) (by omega), ← hlen]
   refine ⟨inb_nat h, inb_nat h, hn h _ ?_⟩
   rw [zkq hf, show (numS ((fullS m).take k) : Int) * ((fullS m)[k].length : Int) = ((numS ((fullS m).take k) * (fullS m)[k].length : Nat) : Int) by simp]
   exact w64_eq (by omega) (by omega)
  ·have hk' : k = m.vars.length := by omega
   subst hk'
   rw [sel_end, List.take_of_length_le (by rw [zd]; exact Nat.le_refl _)]
theorem zlq (a : AnsD) : Sat Tryz.prog zU [toD .ans a] (dB (decide (a.values = []) && decide (a.proof = []))) :=
 zVw a fun ok => by
  rw [zUw]
  refine za (fun e => ?_) fun e => ?_
  ·have e : (a.values.length : Int) = 0 := of_decide_eq_true e
   have h : a.values = [] := List.length_eq_zero_iff.1 (by omega)
   rw [h]
   congr 1
   cases a.proof with
   | nil => rfl
   | cons x l => exact decide_eq_false (by rw [List.length_cons]; omega)
  ·have e : ¬(a.values.length : Int) = 0 := of_decide_eq_false e
   have h : a.values ≠ [] := fun h => e (by rw [h]; rfl)
   rw [decide_eq_false h]; rfl
theorem zcC : runS twoM true [] (fullS twoM) = [[0, 1], [1, 2]] := runS_B (cons := true) two_mc zd 1 (by kernel_rfl) (by kernel_rfl) (by kernel_rfl)
theorem zdC : runS twoM true [] (keep1 [[0, 1], [1, 2]] 0 0) = [[0], [1, 2]] := runS_B (cons := true) two_mc (by kernel_rfl) 1 (by kernel_rfl) (by kernel_rfl) (by kernel_rfl)
theorem zeC : runS twoM true [] (keep1 [[0], [1, 2]] 1 1) = [[0], [1]] := runS_B (cons := true) two_mc (by kernel_rfl) 1 (by kernel_rfl) (by kernel_rfl) (by kernel_rfl)
theorem zfC : downS twoM ([] ++ []) = ([], true, [0, 1]) := by
 show downF twoM [] 3 (runS twoM true [] (fullS twoM)) [] = _
 rw [zcC, downF, if_neg (by decide), if_neg (by decide)]
 show downF twoM [] 2 (runS twoM true [] (keep1 [[0, 1], [1, 2]] 0 0)) _ = _
 rw [zdC, downF, if_neg (by decide), if_neg (by decide)]
 show downF twoM [] 1 (runS twoM true [] (keep1 [[0], [1, 2]] 1 1)) _ = _
 rw [zeC, downF, if_neg (by decide), if_pos (by decide)]
 rfl
theorem two_go {k : Nat} : goS twoM (k + 1) [] [] ([], []) = ⟨[0, 1], 1, k, [], ([], [])⟩ := by
 rw [goS, zfC, if_pos rfl]
theorem zgC {m : MdlD} {g : List (List LitD)} {t : List StepD} (hg : ∀ c ∈ g, clauseE m.vars.length c = 0) (hgl : g.length ≤ 1) (h : ProofR m g t) (hl : t.length ≤ 6000) : stepsE m g t = 0 := by
 have e1 : firstE (fun _ (s : StepD) => clauseE m.vars.length s.clause) 0 t = 0 := zBd fun _ x hx => h.cl x hx
 have e2 : firstE (fun _ (s : StepD) => stepConF m s) 0 t = 0 := zBd fun _ x hx => by
  rw [stepConF, if_neg]
  rintro ⟨h1, h2⟩
  have := h.con x hx h1
  omega
 have e3 : rightsE m.vars.length g = 0 := by
  rw [rightsE, if_neg (by omega)]
  exact zBd fun _ x hx => hg x hx
 rw [stepsE, if_neg (by omega), e3, e1, e2]; rfl
theorem zhC {m : MdlD} {fuel : Int} (h : checkM m ≠ 0) : readyS m fuel = checkM m := or0_ne h
theorem zmq {m : MdlD} {fuel : Int} (h : checkM m = 0) (h2 : fuel < 0 ∨ 300 < fuel) : readyS m fuel = 3 := by rw [readyS, or0_eq h, if_pos h2]
theorem ziC {m : MdlD} {fuel : Int} (h : checkM m = 0) (h2 : 0 ≤ fuel ∧ fuel ≤ 300) : readyS m fuel = 0 := by rw [readyS, or0_eq h, if_neg (by omega)]
end Go.Proofs.YtajnbkhgnppckaaGreatDoor
/- Lists of all values of which all holds: what the program's call does, and the document's. -/
namespace Go.Proofs.YtajnbkhgnppckaaGreatDoor
open Go.RowKit
set_option linter.unusedVariables false
set_option linter.unusedSimpArgs false
abbrev hpL (m : MdlD) (out : List (List Int)) : List (Nat × HObj) := [(1000, .cells [.sl .var m.vars, .sl .con m.cons, dI m.goal, dI m.var, .own 2000]), (2000, .row 26 (.list .int) out)]
theorem zjC (s : List (List Int)) (v n : Int) : Sat Tryz.prog zG [dS s, .clo zyf none [.iptr [dI v] 0, .iptr [dI n] 0]] (dS (keep1 s v n)) :=
 zhd (f := fun w k => !decide ((w : Int) = v) || decide (k = n)) z8v fun w hw k hk => zRB w k v n fun ok => by
  rw [zQB]
  refine za (fun e => ?_) fun e => ?_
  ·rw [e]; rfl
  ·rw [e, Bool.false_or]
theorem zkC {m : MdlD} (hm : checkM m = 0) : ∀ (k : Nat) (s out : List (List Int)), sizeS s ≤ k → leS s (fullS m) → out.length ≤ 200 →
  SatH Tryz.prog zPd [.ptr 1000 0, dS s] (hpL m out) (dB (decide (out.length + (solsS m s).length ≤ 200))) (hpL m ((out ++ solsS m s).take 200)) := by
 intro k
 induction k using Nat.strongRecOn with
 | _ k ih =>
  intro s out hk hle hout
  have hmc := zYo hm
  have hr := hmc.right
  have hv := hr.vars
  refine zEB m.vars m.cons m.goal m.var out s fun ok ok2 => ?_
  rw [zDB]
  have hs : s.length = m.vars.length := hle.1.trans zd
  refine call1 (zOe hmc (ztb hr (ztd zxd hle)) (by decide)) ?_
  rw [← z5A hmc hle]
  have ht := run_le (cons := true) hmc hs
  have htl := run_len (cons := true) hmc hs
  have hsz := ht.size
  have htf := ht.trans hle
  have hst := fun h => zHc (cons := true) hmc hs h
  generalize runS m true [] s = t at ht htl hsz htf hst ⊢
  refine call1 (zv t) (za (fun e => ?_) fun e => ?_)
  ·have e0 : solsS m t = [] := by rw [solsS, z6A e]; rfl
   rw [e0, List.append_nil, List.take_of_length_le hout, decide_eq_true (show out.length + ([] : List (List Int)).length ≤ 200 by simpa using hout)]
   exact ⟨rfl, rfl⟩
  ·have hne := zy.1 e
   refine call1 (zdq t) ?_
   rcases zpk t with ⟨eo, h1⟩ | ⟨v, eo, hv', h1, h2⟩
   ·refine dt (by omega : openI t < 0) ?_
    have hone : ∀ v : Nat, v < t.length → (t.getD v []).length = 1 := fun v hv => by
     have := h1 v
     have := List.length_pos_iff.2 (hne v hv)
     omega
    have hp := zPp hone
    have hin : InS (valsS t) t := zJc.1 (by rw [hp]; exact List.mem_singleton.2 rfl)
    have huniq : ∀ us, InS us t → us = valsS t := fun us hu => by
     have := zJc.2 hu
     rw [hp] at this; exact List.mem_singleton.1 this
    have hw : wholeM m (valsS t) = true := z0p (hin.1.trans htl) (hin.mono htf) fun c hc => by
     have hpos := hmc.pos
     obtain ⟨n, hn⟩ := List.exists_mem_of_ne_nil _ (hne 0 (by omega))
     obtain ⟨us, u1, _, u3⟩ := (zud hmc hc).congr (Q' := fun _ => true) htl (vs := []) (hst e _ (mem_ops.2 (.inl ⟨rfl, c, hc, rfl⟩))) e 0 n hn
     rw [huniq us u1] at u3; exact u3
    have e0 : solsS m t = [valsS t] := by rw [solsS, hp, List.filter_cons, hw]; rfl
    rw [e0]
    refine za (fun f => ?_) fun f => ?_
    ·have f : (out.length : Int) = 200 := of_decide_eq_true f
     rw [zRp (by omega), List.take_of_length_le (by omega), decide_eq_false (by simp; omega)]
     exact ⟨rfl, rfl⟩
    ·have f : ¬(out.length : Int) = 200 := of_decide_eq_false f
     rw [List.take_of_length_le (by simp; omega), decide_eq_true (by simp; omega)]
     refine up (I := fun n v a => zyi m.vars m.cons m.goal m.var _ t n v a out) (a := []) 0 t.length rfl (Nat.zero_le _) (by omega) (fun k a => a = valsS (t.take k)) rfl fun n j a _ hj ha hn => ?_
     subst ha
     rw [zBB]
     by_cases h : j < t.length
     ·have hrow : 0 < t[j].length := List.length_pos_iff.2 (by have := hne j h; rwa [getD_at _ h] at this)
      rw [sel_lt h, at_nat (t := .list .int) h]
      refine ⟨inb_nat h, inb_nat (k := 0) hrow, room_of (t := .int) ?_, hn h _ ?_⟩
      ·rw [valsS, List.length_map, List.length_take]; show (_ + 1) * 8 ≤ _; omega
      ·rw [zgq h]; rfl
     ·have hj' : j = t.length := by omega
      subst hj'
      rw [sel_end, List.take_length]
      exact ⟨room_of (t := .list .int) (by show (out.length + 1) * 24 ≤ _; omega), rfl, rfl⟩
   ·refine df (by omega : ¬openI t < 0) ?_
    rw [eo]
    have hb := zaB (m := m) hv' (zwk htf v) fun w hw => by
     have := h2 w hw
     have := List.length_pos_iff.2 (hne w (by omega))
     omega
    have e1 : at' (.list .int) t (v : Int).toNat = t.getD v [] := by rw [at_nat hv', getD_at _ hv']
    have hrow6 : (t.getD v []).length ≤ 6 := Nat.le_trans (htf.2 v).length_le (zyd hr v)
    refine ⟨inb_nat hv', ?_⟩
    rw [hb]
    have main : ∃ n2, zWe (fun d h1 => d = dB (decide (out.length + ((t.getD v []).flatMap fun n => solsS m (keep1 t v n)).length ≤ 200)) ∧ h1 = hpL m ((out ++ (t.getD v []).flatMap fun n => solsS m (keep1 t v n)).take 200)) t (v : Int) n2 0 m.vars m.cons m.goal m.var out := by
     refine up (I := fun n i a => zWe _ t (v : Int) n i m.vars m.cons m.goal m.var a) (a := out) 0 (t.getD v []).length rfl (Nat.zero_le _) (by omega)
      (fun k a => a = out ++ (((t.getD v []).take k).flatMap fun n => solsS m (keep1 t v n)) ∧ a.length ≤ 200) ⟨by simp, hout⟩ fun n j a _ hj ha hn => ?_
     obtain ⟨ha, hal⟩ := ha
     rw [zCB, e1]
     by_cases h : j < (t.getD v []).length
     ·rw [sel_lt h, at_nat (t := .int) h]
      have hlt : sizeS (keep1 t v (t.getD v [])[j]) < k := by
       refine Nat.lt_of_lt_of_le ((zKb (s := t)).size_lt fun e => ?_) (Nat.le_trans hsz hk)
       have e2 : (keep1 t v (t.getD v [])[j]).getD v [] = t.getD v [] := by rw [keep1, e]
       rw [keep1, zp] at e2
       have e3 := congrArg List.length e2
       have e4 : ((t.getD v []).filter fun k => !decide ((v : Int) = (v : Int)) || decide (k = (t.getD v [])[j])).length ≤ 1 := by
        rw [show (fun k : Int => !decide ((v : Int) = (v : Int)) || decide (k = (t.getD v [])[j])) = fun k => decide (k = (t.getD v [])[j]) by funext k; simp]
        exact zqk (zwk htf v) _
       omega
      have hrec := ih _ hlt (keep1 t v (t.getD v [])[j]) a (Nat.le_refl _) (zKb.trans htf) hal
      have htk : ((t.getD v []).take (j + 1)).flatMap (fun n => solsS m (keep1 t v n)) = ((t.getD v []).take j).flatMap (fun n => solsS m (keep1 t v n)) ++ solsS m (keep1 t v (t.getD v [])[j]) := by
       rw [← List.take_append_getElem h, List.flatMap_append]; simp
      have hall : (t.getD v []).flatMap (fun n => solsS m (keep1 t v n)) = ((t.getD v []).take (j + 1)).flatMap (fun n => solsS m (keep1 t v n)) ++ ((t.getD v []).drop (j + 1)).flatMap (fun n => solsS m (keep1 t v n)) := by
       rw [← List.flatMap_append, List.take_append_drop]
      have hal2 : (a ++ solsS m (keep1 t v (t.getD v [])[j])) = out ++ ((t.getD v []).take (j + 1)).flatMap (fun n => solsS m (keep1 t v n)) := by rw [ha, htk, List.append_assoc]
      refine ⟨inb_nat h, call1 (zjC t v _) ⟨_, _, hrec, za (fun f => ?_) fun f => ?_⟩⟩
      ·have f : ¬a.length + (solsS m (keep1 t v (t.getD v [])[j])).length ≤ 200 := by simpa using f
       have hlen := congrArg List.length hal2
       rw [List.length_append] at hlen
       rw [hall, ← List.append_assoc, ← hal2, zRp (a := a ++ solsS m (keep1 t v (t.getD v [])[j])) (by rw [List.length_append]; omega), decide_eq_false (by
        rw [List.length_append]
        rw [List.length_append] at hlen
        omega)]
       exact ⟨rfl, rfl⟩
      ·have f : a.length + (solsS m (keep1 t v (t.getD v [])[j])).length ≤ 200 := by simpa using f
       rw [List.take_of_length_le (l := a ++ solsS m (keep1 t v (t.getD v [])[j])) (by rw [List.length_append]; exact f)]
       exact hn h _ ⟨hal2, by rw [List.length_append]; exact f⟩
     ·have hj' : j = (t.getD v []).length := by omega
      subst hj'
      rw [List.take_length] at ha
      rw [sel_end, ← ha, List.take_of_length_le hal, decide_eq_true (by
       have := congrArg List.length ha
       rw [List.length_append] at this
       omega)]
      exact ⟨rfl, rfl⟩
    exact main
def listA (m : MdlD) : List (List Int) := if checkM m = 0 then (solsS m (fullS m)).take 200 else []
def listB (m : MdlD) : Bool := orB (checkM m) (decide ((solsS m (fullS m)).length ≤ 200))
theorem zlC (m : MdlD) : Sat Tryz.prog zMd [dM m] (.tup [dS (listA m), dB (listB m), dI (checkM m)]) :=
 zsB m fun ok => by
  rw [zrB, listA, listB]
  refine call1 (zpe m) (za (fun e => ?_) fun e => ?_)
  ·rw [if_neg (zE e), orB1 (zE e)]
  ·have e := zr e
   rw [if_pos e, orB0 e, e]
   have h := zkC e _ (fullS m) [] (Nat.le_refl _) (leS.refl _) (Nat.zero_le _)
   refine call1 (full_ok (zY e)) ⟨_, _, h, ?_⟩
   simp
theorem zmC (a b : List (List Int)) : Sat Tryz.prog zNd [dS a, dS b] (dB (decide (a = b))) :=
 zru a b fun ok => by
  have hl : a.length ≤ 9223372036854775807 := okLen (t := .list .int) (ok1 ok)
  rw [zqu]
  refine za (fun e => ?_) fun e => ?_
  ·rw [decide_eq_false (p := a = b) fun h => by subst h; simp at e]
  have e : a.length = b.length := by simp at e; omega
  have hz : (a.zip b).length = a.length := by rw [List.length_zip]; omega
  refine any0 (I := fun n v => z8g a b _ n v) (a.zip b) (fun x => !decide (x.1 = x.2)) (by omega) (X := dB false = dB (decide (a = b))) (Y := dB true = dB (decide (a = b))) (by rw [zid a b e]; cases decide (a = b) <;> rfl) (fun n k h hX hn => ?_) fun n hY => ?_
  ·have hk : k < a.length := by omega
   rw [List.getElem_zip] at hX hn
   rw [zum, sel_lt hk, at_nat (t := .list .int) hk, at_nat (t := .list .int) (show k < b.length by omega)]
   exact ⟨inb_nat hk, inb_nat (by omega), call1 (zSh _ _) (za hX hn)⟩
  ·rw [hz, zum, sel_end]; exact hY
end Go.Proofs.YtajnbkhgnppckaaGreatDoor
/- Lists of all values of which all holds: the document's counting, and the laws. -/
namespace Go.Proofs.YtajnbkhgnppckaaGreatDoor
open Go.RowKit
set_option linter.unusedVariables false
set_option linter.unusedSimpArgs false
theorem znC : solsS twoM (fullS twoM) = [[0, 1], [0, 2], [1, 2]] := by kernel_rfl
theorem zoC : Sat Tryz.prog zMd [dM twoM] (.tup [dS [[0, 1], [0, 2], [1, 2]], dB true, dI 0]) := by
 have h := zlC twoM
 have e : checkM twoM = 0 := by kernel_rfl
 rwa [listA, listB, if_pos e, orB0 e, e, znC] at h
theorem zpC : Sat Tryz.prog zWc [dM twoM, dI 9] (.tup [toD .ans ⟨1, [0, 1], []⟩, dI 0]) := by
 have h := zjq twoM 9
 have e : readyS twoM 9 = 0 := by kernel_rfl
 have e2 : solveS twoM 9 = ⟨1, [0, 1], []⟩ := by rw [solveS, two_go (k := 8), if_neg (by decide)]
 rw [solveA, if_pos e, e] at h
 rw [← e2]; exact h
theorem zqC : Sat Tryz.prog zNd [dS [[0, 1], [0, 2], [1, 2]], dS [[0, 1], [0, 2], [1, 2]]] (dB true) := by
 have h := zmC [[0, 1], [0, 2], [1, 2]] [[0, 1], [0, 2], [1, 2]]
 rwa [decide_eq_true rfl] at h
theorem zrC : Sat Tryz.prog zTb [] (dB true) :=
 zTw fun ok => by
  rw [zSw]
  exact call1 (t := .mdl) zjd (call2 (t := .ans) (u := .int) zpC (call1 (t := .mdl) zjd (call3 (t := .list (.list .int)) (u := .bool) (v := .int) zoC (dt rfl (dt rfl (dt rfl (dt rfl (bt rfl (call1 (t := .bool) zqC rfl)))))))))
theorem zsC {m : MdlD} {fuel : Int} (h : readyS m fuel ≠ 0) : solveA m fuel = ⟨0, [], []⟩ := if_neg h
theorem ztC {m : MdlD} {fuel : Int} (h : readyS m fuel = 0) : checkM m = 0 ∧ ∃ k : Nat, fuel = k ∧ solveA m fuel = solveS m k ∧ SolveX m k (solveA m fuel) := by
 obtain ⟨h1, h2, h3⟩ := ziq h
 obtain ⟨k, rfl⟩ : ∃ k : Nat, fuel = (k : Int) := ⟨fuel.toNat, by omega⟩
 have e : solveA m (k : Int) = solveS m k := by rw [solveA, if_pos h, Int.toNat_natCast]
 exact ⟨h1, k, rfl, e, by rw [e]; exact zmB h1 (by omega)⟩
set_option maxRecDepth 100000 in
theorem zEi {m : MdlD} {fuel : Int} {a : AnsD} {s w : Int} (hs : s = w) (he : w ≠ 0 → a = ⟨0, [], []⟩) (hz : w = 0 → checkM m = 0 ∧ ∃ k : Nat, fuel = k ∧ SolveX m k a) :
  Call1 Tryz.prog zTb [] .bool fun c4 => sel (!c4) (dB false = dB true) (Call1 Tryz.prog zYb [] .bool fun c5 => sel (!c5) (dB false = dB true) (sel (!decide (s = w)) (dB false = dB true) (sel (!decide (w = 0)) (sel (decide (a.verdict = 0)) (Call1 Tryz.prog zU [.agg [dI a.verdict, .sl .int a.values, .sl .step a.proof]] .bool fun c5 => dB c5 = dB true) (dB false = dB true))
   (sel (decide (a.verdict = 1)) (sel (decide ((a.values.length : Int) = (m.vars.length : Int))) (Call1 Tryz.prog zUb [dM m, .sl .int a.values] .bool fun c6 => sel c6 (dB (decide ((a.proof.length : Int) = 0)) = dB true) (dB false = dB true)) (dB false = dB true))
    (sel (decide (a.verdict = 2)) (sel (decide ((a.values.length : Int) = 0)) (Call1 Tryz.prog zVb [dM m, .sl (.list .lit) ([] : List (List LitD)), .sl .step a.proof] .int fun c10 => sel (decide (c10 = 0)) (Call1 Tryz.prog zWb [dM m, .sl (.list .lit) ([] : List (List LitD)), .sl .step a.proof] .bool fun c11 => dB c11 = dB true) (dB false = dB true)) (dB false = dB true))
     (sel (decide (a.verdict = 3)) (Call1 Tryz.prog zU [.agg [dI a.verdict, .sl .int a.values, .sl .step a.proof]] .bool fun c12 => sel c12 (sel (decide (fuel < 300)) (dB true = dB true) (Call1 Tryz.prog zXb [dM m] .int fun c13 => dB (decide (100 < c13)) = dB true)) (dB false = dB true)) (dB false = dB true))))))) := by
 subst hs
 refine call1 (t := .bool) zrC (bnf rfl (call1 (t := .bool) zUy (bnf rfl (dnf rfl ?_))))
 by_cases e : s = 0
 ·obtain ⟨hm, k, rfl, hx⟩ := hz e
  have hr := zY hm
  refine dnf e ?_
  cases hx with
  | found q1 q2 q3 =>
   refine dt q1 (dt (by rw [q2.len]) (call1 (t := .bool) (zQy hr q2.len) ?_))
   rw [q2.whole]
   exact bt rfl (by rw [q3]; rfl)
  | none q1 q2 q3 q4 =>
   have hst := zgC (g := []) (fun c hc => (by cases hc)) (by decide) q3 q4
   refine df (by rw [q1]; decide) (dt q1 (dt (by rw [q2]; rfl) (call1 (t := .int) (zRz hm _ _) (dt hst (call1 (t := .bool) (zTz (zQz hm hst)) ?_)))))
   rw [q3.right]
  | unknown q1 q2 q3 q4 =>
   refine df (by rw [q1]; decide) (df (by rw [q1]; decide) (dt q1 (call1 (t := .bool) (zlq a) ?_)))
   have hnn : (decide (a.values = []) && decide (a.proof = [])) = true := by simp [q2, q3]
   refine bt hnn (za (fun _ => rfl) fun f => ?_)
   have f : ¬(k : Int) < 300 := of_decide_eq_false f
   refine call1 (t := .int) (zbC hr) ?_
   rw [decide_eq_true (show (100 : Int) < (numS (fullS m) : Int) by omega)]
 ·have ha := he e
  subst ha
  exact dnt e (dt rfl (call1 (t := .bool) (zlq _) rfl))
theorem zuC (m : MdlD) (fuel : Int) : Sat Tryz.prog zAl [dM m, dI fuel] (dB true) :=
 zRw m fuel fun ok => by
  rw [zQw]
  refine call2 (t := .ans) (u := .int) (zjq m fuel) (call1 (t := .int) (zLw m) ?_)
  have hbad : ∀ {w : Int}, readyS m fuel = w → w ≠ 0 → solveA m fuel = ⟨0, [], []⟩ := fun h1 h2 => zsC (by rw [h1]; exact h2)
  by_cases e : checkM m = 0
  ·refine dt e (za (fun f => ?_) fun f => za (fun g => ?_) fun g => ?_)
   ·have h := zmq e (.inl (of_decide_eq_true f))
    exact zEi (w := 3) h (hbad h) fun h => absurd h (by decide)
   ·have h := zmq e (.inr (of_decide_eq_true g))
    exact zEi (w := 3) h (hbad h) fun h => absurd h (by decide)
   ·have f := of_decide_eq_false f
    have g := of_decide_eq_false g
    have h := ziC (fuel := fuel) e (by omega)
    refine zEi (h.trans e.symm) (fun h' => absurd e h') fun _ => ?_
    obtain ⟨h1, k, h2, _, h3⟩ := ztC h
    exact ⟨h1, k, h2, h3⟩
  ·have h := zhC (fuel := fuel) e
   exact df e (zEi h (hbad h) fun h => absurd h e)
end Go.Proofs.YtajnbkhgnppckaaGreatDoor
