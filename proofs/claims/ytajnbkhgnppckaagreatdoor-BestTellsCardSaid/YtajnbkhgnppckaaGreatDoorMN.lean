/- Texts of this proof, one behind the other: nothing is handed in but what is proved here; no condition. -/
import Derived.Test.YtajnbkhgnppckaaGreatDoorML
import Derived.Test.YtajnbkhgnppckaaGreatDoorMK
import Derived.Test.YtajnbkhgnppckaaGreatDoorWSearch
import Derived.Test.YtajnbkhgnppckaaGreatDoorWBest
import Derived.Test.YtajnbkhgnppckaaGreatDoorWCordonlaw
import Derived.Test.YtajnbkhgnppckaaGreatDoorWCordonref
/- Searches: what the program's calls do. -/
namespace Go.Proofs.YtajnbkhgnppckaaGreatDoor
open Go.RowKit
set_option linter.unusedVariables false
set_option linter.unusedSimpArgs false
abbrev hpS (m : MdlD) (g l : List (List LitD)) (fuel : Int) (p : NoteS) : List (Nat × HObj) := [(1000, .cells [.sl .var m.vars, .sl .con m.cons, dI m.goal, dI m.var, .sl (.list .lit) g, dI fuel, .own 2000, .own 2001, .own 1001]), (2000, .row 47 (.list .lit) l), (2001, .row 71 .step p.1), (1001, .mp .str .int p.2)]
def LitI (x : LitD) : Prop := inI64 x.var ∧ inI64 x.op ∧ inI64 x.n
theorem litI_of {nv : Nat} {x : LitD} (hn : nv ≤ 6) (h : litE nv x = 0) : LitI x := by
 obtain ⟨h1, h2, h3⟩ := zu.1 h
 exact ⟨by unfold inI64; omega, by unfold inI64; omega, by unfold inI64; omega⟩
theorem zYA (c : List LitD) (x : LitD) : keyC (c ++ [x]) = keyC c ++ litK x := by rw [keyC, List.foldl_append]; rfl
theorem zZA : ∀ {c : List LitD}, (∀ x ∈ c, LitI x) → (keyC c).size ≤ c.length * 66 := fun {c} => by
 suffices H : ∀ (c : List LitD) (o : ByteArray), (∀ x ∈ c, LitI x) → (c.foldl (fun o x => o ++ litK x) o).size ≤ o.size + c.length * 66 from fun h => by
  have := H c ⟨#[]⟩ h
  rw [keyC]
  have e : (⟨#[]⟩ : ByteArray).size = 0 := rfl
  omega
 intro c
 induction c with
 | nil => exact fun o _ => by simp
 | cons x c ih =>
  intro o h
  have h1 := ih (o ++ litK x) fun y hy => h y (List.mem_cons_of_mem _ hy)
  obtain ⟨a, b, d⟩ := h x (List.mem_cons_self ..)
  have h2 := zqA a b d
  rw [ByteArray.size_append] at h1
  rw [List.foldl_cons, List.length_cons]
  omega
theorem z0A {c : List LitD} (hl : c.length ≤ 1000000) (hr : ∀ x ∈ c, LitI x) : Sat Tryz.prog zsf [.sl .lit c] (.str (keyC c)) :=
 zOA c fun ok => by
  rw [zNA]
  refine up (I := fun n v a => zoi c _ n a v) 0 c.length rfl (Nat.zero_le _) (by omega) (fun k a => a = keyC (c.take k)) rfl fun n k a _ hk ha hn => ?_
  subst ha
  rw [zMA]
  by_cases h : k < c.length
  ·rw [sel_lt h, at_nat (t := .lit) h]
   obtain ⟨h1, h2, h3⟩ := hr _ (List.getElem_mem h)
   have s1 := zFc h1; have s2 := zFc h2; have s3 := zFc h3
   have s0 := zZA (c := c.take k) fun x hx => hr x (List.mem_of_mem_take hx)
   rw [List.length_take] at s0
   have z58 : (⟨#[58]⟩ : ByteArray).size = 1 := rfl
   have z32 : (⟨#[32]⟩ : ByteArray).size = 1 := rfl
   refine ⟨inb_nat h, call1 (t := .str) (itoa_ok h1) ⟨by omega, call1 (t := .str) (itoa_ok h2) ⟨?_, ?_, call1 (t := .str) (itoa_ok h3) ⟨?_, ?_, ?_, ?_⟩⟩⟩⟩
   ·rw [ByteArray.size_append]; omega
   ·simp only [ByteArray.size_append]; omega
   ·simp only [ByteArray.size_append]; omega
   ·simp only [ByteArray.size_append]; omega
   ·simp only [ByteArray.size_append]; omega
   ·refine hn h _ ?_
    rw [← List.take_append_getElem h, zYA]; rfl
  ·have hk' : k = c.length := by omega
   subst hk'
   rw [sel_end, List.take_length]
theorem z1A (s : List (List Int)) : Sat Tryz.prog zmf [dS s] (dI (openI s)) :=
 zJA s fun ok => by
  rw [zIA]
  refine seek (t := .list .int) (p := fun r : List Int => decide (1 < r.length)) (R := fun d => d = dI (openI s)) (okLen (t := .list .int) (ok1 ok)) rfl (fun n k h h1 h2 => ?_) fun n hR => ?_
  ·rw [zNp, sel_lt h, at_nat (t := .list .int) h]
   refine ⟨inb_nat h, za (fun e => h1 ?_) fun e => h2 ?_⟩
   ·have e : (1 : Int) < (s[k].length : Int) := of_decide_eq_true e
    exact decide_eq_true (by omega)
   ·have e : ¬(1 : Int) < (s[k].length : Int) := of_decide_eq_false e
    exact decide_eq_false (by omega)
  ·rw [zNp, sel_end]; exact hR
theorem zpk {m : MdlD} {g l : List (List LitD)} {fuel : Int} {p : NoteS} (hg : g.length ≤ 1000000) (hl : l.length ≤ 1000000) : SatH Tryz.prog zUc [.ptr 1000 0] (hpS m g l fuel p) (.sl (.list .lit) (g ++ l)) (hpS m g l fuel p) :=
 zEA m.vars m.cons m.goal m.var g fuel l p.1 p.2 fun ok ok2 => by
  rw [zDA]
  simp only [dup2_eq, dup3_eq, and_self, -eq_self]
  refine ⟨room_of (t := .list .lit) ?_, room_of (t := .list .lit) ?_, rfl, rfl⟩
  ·show (0 + g.length) * 24 ≤ _; omega
  ·rw [List.nil_append]; show (g.length + l.length) * 24 ≤ _; omega
theorem z2A {m : MdlD} {g l : List (List LitD)} {fuel : Int} {p : NoteS} : SatH Tryz.prog zRc [.ptr 1000 0] (hpS m g l fuel p) (.tup [.sl .step p.1, dB (decide ((p.1.length : Int) ≤ 6000))]) [(1000, .cells [.sl .var m.vars, .sl .con m.cons, dI m.goal, dI m.var, .sl (.list .lit) g, dI fuel, .own 2000, .sl .step p.1, .own 1001]), (2000, .row 47 (.list .lit) l), (1001, .mp .str .int p.2)] :=
 zyA m.vars m.cons m.goal m.var g fuel l p.1 p.2 fun ok ok2 => by
  rw [zxA]
  exact ⟨rfl, rfl⟩
theorem z3A (m : MdlD) (fuel : Int) : SatH Tryz.prog zaf [dM m, dI fuel] [] (.ptr 3000 0) [(3000, .cells [.sl .var m.vars, .sl .con m.cons, dI m.goal, dI m.var, .sl (.list .lit) [], dI fuel, .nil, .nil, .own 3001]), (3001, .mp .str .int [])] :=
 zuA m fuel fun ok ok2 => by
  rw [ztA]
  exact ⟨rfl, rfl⟩
theorem zSp {p : NoteS} {st : StepD} : (note1 p st).1.length ≤ p.1.length + 1 ∧ (note1 p st).2.length ≤ p.2.length + 1 := by
 unfold note1
 split
 ·refine ⟨by simp, ?_⟩
  show (mput .str .int (keyC st.clause) 1 p.2).length ≤ _
  generalize p.2 = es
  induction es with
  | nil => exact Nat.le_refl _
  | cons e es ih =>
   obtain ⟨a, b⟩ := e
   show (bif keq .str (keyC st.clause) a then (a, (1 : Int)) :: es else (a, b) :: mput .str .int (keyC st.clause) 1 es).length ≤ _
   cases keq .str (keyC st.clause) a
   ·rw [cond_false, List.length_cons, List.length_cons]; omega
   ·rw [cond_true, List.length_cons, List.length_cons]; omega
 ·omega
theorem zqk : ∀ (t : List StepD) (p : NoteS), (noteS t p).1.length ≤ p.1.length + t.length ∧ (noteS t p).2.length ≤ p.2.length + t.length
 | [], p => ⟨Nat.le_refl _, Nat.le_refl _⟩
 | st :: t, p => by
  have h1 := zSp (p := p) (st := st)
  have h2 := zqk t (note1 p st)
  show (noteS t (note1 p st)).1.length ≤ _ ∧ (noteS t (note1 p st)).2.length ≤ _
  rw [List.length_cons]; omega
theorem z4A {m : MdlD} {g l : List (List LitD)} {fuel : Int} {p : NoteS} {t : List StepD} (h1 : p.1.length ≤ 1000000) (h2 : p.2.length ≤ 1000000) (ht : t.length ≤ 1000000) (hc : ∀ st ∈ t, st.clause.length ≤ 1000000 ∧ ∀ x ∈ st.clause, LitI x) :
  SatH Tryz.prog zif [.ptr 1000 0, .sl .step t] (hpS m g l fuel p) (.tup []) (hpS m g l fuel (noteS t p)) :=
 zHA m.vars m.cons m.goal m.var g fuel l p.1 p.2 t fun ok ok2 => by
  rw [zGA]
  refine up (I := fun n v (a : NoteS) => zvd t _ n v m.vars m.cons m.goal m.var g fuel a.2 l a.1) (a := p) 0 t.length rfl (Nat.zero_le _) (by omega) (fun k a => a = noteS (t.take k) p) rfl fun n k a _ hk ha hn => ?_
  subst ha
  show zvd t _ _ _ _ _ _ _ _ _ (noteS (t.take k) p).2 _ (noteS (t.take k) p).1
  rw [zFA]
  by_cases h : k < t.length
  ·rw [sel_lt h, at_nat (t := .step) h]
   obtain ⟨c1, c2⟩ := hc _ (List.getElem_mem h)
   have hs : noteS (t.take (k + 1)) p = note1 (noteS (t.take k) p) t[k] := by
    rw [← List.take_append_getElem h]; exact List.foldl_append ..
   obtain ⟨n1, n2⟩ := zqk (t.take k) p
   rw [List.length_take] at n1 n2
   refine ⟨inb_nat h, call1 (t := .str) (z0A c1 c2) (za (fun e => ?_) fun e => ?_)⟩
   ·have e : metK t[k].clause (noteS (t.take k) p).2 = 0 := of_decide_eq_true e
    refine ⟨decide_eq_true (by omega), room_of (t := .step) (by show ((noteS (t.take k) p).1.length + 1) * 40 ≤ _; omega), hn h (_, _) ?_⟩
    rw [hs, note1, if_pos e]
   ·have e : ¬metK t[k].clause (noteS (t.take k) p).2 = 0 := of_decide_eq_false e
    refine hn h _ ?_
    rw [hs, note1, if_neg e]
  ·have hk' : k = t.length := by omega
   subst hk'
   rw [sel_end, List.take_length]
   exact ⟨rfl, rfl⟩
end Go.Proofs.YtajnbkhgnppckaaGreatDoor
/- Searches: the way down, the rounds, and what is answered. -/
namespace Go.Proofs.YtajnbkhgnppckaaGreatDoor
open Go.RowKit
set_option linter.unusedVariables false
set_option linter.unusedSimpArgs false
theorem z5A {s : List (List Int)} {k : Nat} (h : k < s.length) : valsS (s.take (k + 1)) = valsS (s.take k) ++ [s[k].getD 0 0] := by
 rw [valsS, ← List.take_append_getElem h, List.map_append]; rfl
theorem z6A (s : List (List Int)) (v n : Int) (x : LitD) (hx : x.n = n) : Sat Tryz.prog zO [dS s, .clo zpf none [.iptr [dI v] 0, .iptr (cells .lit x) 0]] (dS (keep1 s v n)) :=
 zde (f := fun w k => !decide ((w : Int) = v) || decide (k = n)) zAv fun w hw k hk => zLA w k v x fun ok => by
  rw [zKA]
  refine za (fun e => ?_) fun e => ?_
  ·rw [e]; rfl
  ·rw [e, Bool.false_or, hx]
theorem z7A {m : MdlD} {g l : List (List LitD)} {fuel : Int} {p : NoteS} (hmc : RightMC m (g ++ l)) (hg : g.length ≤ 1000000) (hl : l.length ≤ 1000000) :
  SatH Tryz.prog zgf [.ptr 1000 0] (hpS m g l fuel p) (.tup [.slN .lit (downS m (g ++ l)).1 (downS m (g ++ l)).2.1, .sl .int (downS m (g ++ l)).2.2]) (hpS m g l fuel p) :=
 zCA m.vars m.cons m.goal m.var g fuel l p.1 p.2 fun ok ok2 => by
  rw [zBA]
  have hr := hmc.right
  have hv := hr.vars
  refine ⟨_, zpk hg hl, call1 (full_ok hr) (call1 (zZh hmc (zJb hr zCe) (by rw [List.length_append]; omega)) ?_)⟩
  generalize hL : g ++ l = L at hmc ⊢
  suffices H : ∀ (k : Nat) (d : List LitD), WayR m L d → m.vars.length + 1 ≤ k + d.length → ∀ r, r = downF m L k (fixD m L d) d →
    zli p.2 (fun d h1 => d = .tup [.slN .lit r.1 r.2.1, .sl .int r.2.2] ∧ h1 = hpS m g l fuel p) L k (fixD m L d) d m.vars m.cons m.goal m.var g fuel l p.1 from ⟨_, H (m.vars.length + 1) [] .nil (by simp) _ rfl⟩
  intro k
  induction k with
  | zero => exact fun d hc hk => absurd hc.len (by omega)
  | succ k ih =>
   intro d hc hk r hr'
   rw [zAA]
   simp only [dup2_eq, dup3_eq, and_self, -eq_self]
   rw [downF] at hr'
   have hlen : (fixD m L d).length = m.vars.length := ztd hmc
   refine call1 (zD _) (za (fun e => ?_) fun e => ?_)
   ·have hf : failS (fixD m L d) = false := by simpa using e
    rw [if_neg (by rw [hf]; decide)] at hr'
    refine call1 (z1A _) ?_
    rcases znp (fixD m L d) with ⟨eo, h1⟩ | ⟨v, eo, hv', h1, h2⟩
    ·rw [if_pos (by omega)] at hr'
     rw [decide_eq_true (show openI (fixD m L d) < 0 by omega), hr']
     have hne := zE.1 hf
     refine up (I := fun n v a => zki p.2 _ k (fixD m L d) m.vars m.cons m.goal m.var g fuel n v a l p.1) (a := []) 0 (fixD m L d).length rfl (Nat.zero_le _) (by omega) (fun k a => a = valsS ((fixD m L d).take k)) rfl fun n j a _ hj ha hn => ?_
     subst ha
     rw [zzA]
     by_cases h : j < (fixD m L d).length
     ·have hrow : 0 < (fixD m L d)[j].length := List.length_pos_iff.2 (by have := hne j h; rwa [getD_at _ h] at this)
      rw [sel_lt h, at_nat (t := .list .int) h]
      refine ⟨inb_nat h, inb_nat (k := 0) hrow, room_of (t := .int) ?_, hn h _ ?_⟩
      ·rw [valsS, List.length_map, List.length_take]; show (_ + 1) * 8 ≤ _; omega
      ·rw [z5A h]; rfl
     ·have hj' : j = (fixD m L d).length := by omega
      subst hj'
      rw [sel_end, List.take_length]
      exact ⟨rfl, rfl⟩
    ·rw [if_neg (by omega), eo, Int.toNat_natCast, zei hmc hf] at hr'
     rw [eo, decide_eq_false (show ¬(v : Int) < 0 by omega)]
     have hvn : v < m.vars.length := by omega
     have hc' := hc.step hmc hf hvn eo h1 h2
     have e1 : at' (.list .int) (fixD m L d) (v : Int).toNat = (fixD m L d).getD v [] := by rw [at_nat hv', getD_at _ hv']
     have e2 : at' .int ((fixD m L d).getD v []) 0 = ((fixD m L d).getD v []).getD 0 0 := rfl
     rw [e1, e2]
     refine ⟨inb_nat hv', inb_nat (k := 0) (by omega), room_of (t := .lit) ?_, call1 (z6A _ _ _ ⟨v, 3, ((fixD m L d).getD v []).getD 0 0⟩ rfl) (call1 (zZh hmc ?_ (by rw [← hL, List.length_append]; omega)) ?_)⟩
     ·have := hc.len
      show (d.length + 1) * 24 ≤ _; omega
     ·exact zJb hr (zye zCe (zCc.trans (zEc hmc)))
     ·rw [zei hmc hf]
      exact ih _ hc' (by rw [List.length_append, List.length_singleton]; omega) r hr'
   ·have hf : failS (fixD m L d) = true := by simpa using e
    rw [if_pos hf] at hr'
    rw [hr']
    exact ⟨rfl, rfl⟩
structure Fit (m : MdlD) (g l : List (List LitD)) (k : Nat) (p : NoteS) : Prop where
 sea : Sea m g l p
 fuel : l.length + k ≤ 300
 steps : p.1.length ≤ 6000
 met : p.2.length ≤ p.1.length
theorem z8A {p : NoteS} {st : StepD} (h : p.2.length ≤ p.1.length) : (note1 p st).2.length ≤ (note1 p st).1.length := by
 have h1 := (zSp (p := p) (st := st)).2
 by_cases e : metK st.clause p.2 = 0
 ·have h2 : (note1 p st).1.length = p.1.length + 1 := by rw [note1, if_pos e]; simp
  omega
 ·rw [note1, if_neg e]; exact h
theorem zrk : ∀ (t : List StepD) (p : NoteS), p.2.length ≤ p.1.length → (noteS t p).2.length ≤ (noteS t p).1.length
 | [], p, h => h
 | st :: t, p, h => zrk t (note1 p st) (z8A h)
theorem z9A {m : MdlD} {g l : List (List LitD)} {k : Nat} {p : NoteS} (h : Fit m g l k p) :
  SatH Tryz.prog zbf [.ptr 1000 0] (hpS m g l (k : Int) p) (.tup [.sl .int (goS m k g l p).vals, dI (goS m k g l p).verdict]) (hpS m g (goS m k g l p).learned ((goS m k g l p).fuel : Int) (goS m k g l p).note) :=
 zwA m.vars m.cons m.goal m.var g (k : Int) l p.1 p.2 fun ok ok2 => by
  rw [zvA]
  suffices H : ∀ (k : Nat) (l : List (List LitD)) (p : NoteS), Fit m g l k p → ∀ r, r = goS m k g l p →
    zji (fun d h1 => d = .tup [.sl .int r.vals, dI r.verdict] ∧ h1 = hpS m g r.learned (r.fuel : Int) r.note) (k + 1) m.vars m.cons m.goal m.var g (k : Int) p.2 l p.1 from ⟨_, H k l p h _ rfl⟩
  intro k
  induction k with
  | zero =>
   intro l p h r hr
   rw [zKp, hr]
   exact ⟨rfl, rfl⟩
  | succ k ih =>
   intro l p h r hr
   have hs := h.sea
   have hf := h.fuel
   have hp := h.steps
   have hm2 := h.met
   have hgl := hs.glen
   have hmc := hs.mc
   have hw : w64 (((k + 1 : Nat) : Int) - 1) = (k : Int) := by rw [w64_eq (by omega) (by omega)]; omega
   rw [zKp, hw]
   simp only [dup2_eq, dup3_eq, and_self, -eq_self]
   rw [goS] at hr
   rw [decide_eq_false (show ¬((k + 1 : Nat) : Int) = 0 by omega)]
   refine ⟨_, _, _, z7A hmc (by omega) (by omega), za (fun hd => ?_) fun hd => ?_⟩
   ·rw [if_pos hd] at hr
    rw [hr]; exact ⟨rfl, rfl⟩
   ·rw [if_neg (by rw [hd]; decide)] at hr
    obtain ⟨q1, q2, q3, q4, q5⟩ := zgi hs (by omega) hd
    have hkf : LearnOk m (g ++ l) (fewD m (g ++ l)) := q1.sub zbi
    have hff : failsB m (g ++ l) (fewD m (g ++ l)) = true := z7o q2
    have ht := zek hkf hff
    have hgl2 : (g ++ l).length ≤ 1000000000 := by rw [List.length_append]; omega
    have hdl := q1.dl
    have hfew := zTz hmc hgl2 (show (downS m (g ++ l)).1.length ≤ 1000000 by omega)
    rw [if_pos q2] at hfew
    have hnv := hmc.right.vars
    have hsz := zdp hmc.right
    refine ⟨_, zpk (by omega) (by omega), call2 (t := .list .lit) (u := .bool) hfew ⟨_, zpk (by omega) (by omega), call1 (t := .list .step) (z0z hkf) ⟨_, _, z4A (by omega) (by omega) (show (traceS m (g ++ l) (fewD m (g ++ l))).length ≤ 1000000 by have := ht.len; omega) (fun st hst => ?_), ?_⟩⟩⟩
    ·obtain ⟨c1, c2⟩ := zfd (ht.cl st hst)
     exact ⟨by omega, fun x hx => litI_of hnv (c2 x hx)⟩
    ·have e0 : noteS (traceS m (g ++ l) (fewest m (g ++ l) (downS m (g ++ l)).1)) p = roundN m (g ++ l) p := rfl
     have e1 : fewest m (g ++ l) (downS m (g ++ l)).1 = fewD m (g ++ l) := rfl
     rw [e0, e1]
     by_cases hf0 : fewD m (g ++ l) = []
     ·rw [if_pos hf0] at hr
      rw [hf0, decide_eq_true (show (([] : List LitD).length : Int) = 0 from rfl), hr]
      exact ⟨rfl, rfl⟩
     ·rw [if_neg hf0] at hr
      have hl0 : (fewD m (g ++ l)).length ≠ 0 := fun e => hf0 (List.length_eq_zero_iff.1 e)
      rw [decide_eq_false (show ¬((fewD m (g ++ l)).length : Int) = 0 by omega)]
      have hfl := hkf.dl
      refine call1 (t := .list .lit) (zhp (by omega) hkf.near) ⟨room_of (t := .list .lit) (by show (l.length + 1) * 24 ≤ _; omega), ?_⟩
      have e2 : (l ++ [(fewD m (g ++ l)).map oppL]).length = l.length + 1 := by simp
      refine za (fun e => ?_) fun e => za (fun e' => ?_) fun e' => ?_
      ·have e : (600 : Int) < ((l ++ [(fewD m (g ++ l)).map oppL]).length : Int) := of_decide_eq_true e
       rw [if_pos (.inl (by omega))] at hr
       rw [hr]; exact ⟨rfl, rfl⟩
      ·have e' : (6000 : Int) < ((roundN m (g ++ l) p).1.length : Int) := of_decide_eq_true e'
       rw [if_pos (.inr (by omega))] at hr
       rw [hr]; exact ⟨rfl, rfl⟩
      ·have e : ¬(600 : Int) < ((l ++ [(fewD m (g ++ l)).map oppL]).length : Int) := of_decide_eq_false e
       have e' : ¬(6000 : Int) < ((roundN m (g ++ l) p).1.length : Int) := of_decide_eq_false e'
       rw [if_neg (by omega)] at hr
       exact ih _ (roundN m (g ++ l) p) ⟨(q5 hf0).1, by omega, by omega, zrk _ _ hm2⟩ r hr
def readyS (m : MdlD) (fuel : Int) : Int := or0 (checkM m) (if fuel < 0 ∨ 300 < fuel then 3 else 0)
theorem zaB (m : MdlD) (fuel : Int) : Sat Tryz.prog z9e [dM m, dI fuel] (dI (readyS m fuel)) :=
 zsA m fuel fun ok => by
  rw [zrA]
  refine call1 (zPm m) (za (fun e => ?_) fun e => ?_)
  ·rw [readyS, or0_ne (z7 e)]
  ·rw [readyS, or0_eq (z8 e)]
   refine za (fun f => ?_) fun f => za (fun f' => ?_) fun f' => ?_
   ·rw [if_pos (.inl (of_decide_eq_true f))]
   ·rw [if_pos (.inr (of_decide_eq_true f'))]
   ·have f := of_decide_eq_false f
    have f' := of_decide_eq_false f'
    rw [if_neg (by omega)]
theorem zTp {m : MdlD} {fuel : Int} (h : readyS m fuel = 0) : checkM m = 0 ∧ 0 ≤ fuel ∧ fuel ≤ 300 := by
 obtain ⟨h1, h2⟩ := z1j h
 refine ⟨h1, ?_⟩
 split at h2
 ·cases h2
 ·omega
theorem zbB {m : MdlD} (h : checkM m = 0) {k : Nat} (hk : k ≤ 300) : Fit m [] [] k ([], []) := ⟨.begin h, by simpa using hk, Nat.zero_le _, Nat.le_refl _⟩
end Go.Proofs.YtajnbkhgnppckaaGreatDoor
/- The best: what the program's calls do. -/
namespace Go.Proofs.YtajnbkhgnppckaaGreatDoor
open Go.RowKit
set_option linter.unusedVariables false
set_option linter.unusedSimpArgs false
theorem zsk {m : MdlD} (hr : Right m) {vs : List Int} (hl : vs.length = m.vars.length) (hb : m.goal ≠ 0 → -1000 ≤ vs.getD m.var.toNat 0 ∧ vs.getD m.var.toNat 0 ≤ 1000) : Sat Tryz.prog zSc [dM m, .sl .int vs] (.sl .lit (thanC m vs)) :=
 zUA m vs fun ok => by
  rw [zTA, thanC]
  have hin : m.goal ≠ 0 → inb m.var vs.length = true := fun h => by
   obtain ⟨_, a, b⟩ := goal_of hr h
   exact inb_iff.2 ⟨a, by omega⟩
  refine za (fun e => ?_) fun e => za (fun e' => ?_) fun e' => ?_
  ·have e : m.goal = 1 := of_decide_eq_true e
   have := hb (by omega)
   rw [if_pos e]
   refine ⟨hin (by omega), ?_⟩
   show D.sl .lit [(⟨m.var, 1, w64 (vs.getD m.var.toNat 0 - 1)⟩ : LitD)] = _
   rw [w64_eq (by omega) (by omega)]
  ·have e : ¬m.goal = 1 := of_decide_eq_false e
   have e' : m.goal = 2 := of_decide_eq_true e'
   have := hb (by omega)
   rw [if_neg e, if_pos e']
   refine ⟨hin (by omega), ?_⟩
   show D.sl .lit [(⟨m.var, 2, w64 (vs.getD m.var.toNat 0 + 1)⟩ : LitD)] = _
   rw [w64_eq (by omega) (by omega)]
  ·rw [if_neg (of_decide_eq_false e), if_neg (of_decide_eq_false e')]
theorem zUp {m : MdlD} (hr : Right m) {vs : List Int} (hv : InS vs (fullS m)) (h : m.goal ≠ 0) : -1000 ≤ vs.getD m.var.toNat 0 ∧ vs.getD m.var.toNat 0 ≤ 1000 := by
 obtain ⟨_, g2, g3⟩ := goal_of hr h
 have hvl : m.var.toNat < m.vars.length := by omega
 have := hv.2 m.var.toNat (by rw [zd]; exact hvl)
 rw [zcc hvl, zBe] at this
 have hb := hr.var _ (List.getElem_mem hvl)
 omega
theorem goS_fit {m : MdlD} {g : List (List LitD)} : ∀ (k : Nat) (l : List (List LitD)) (p : NoteS), Fit m g l k p → (goS m k g l p).verdict = 1 → Fit m g (goS m k g l p).learned (goS m k g l p).fuel (goS m k g l p).note ∧ (goS m k g l p).fuel + 1 ≤ k
 | 0, l, p, h, hv => by cases hv
 | k + 1, l, p, h, hv => by
  have hs := h.sea
  have hf := h.fuel
  rw [goS] at hv ⊢
  by_cases hd : (downS m (g ++ l)).2.1 = true
  ·rw [if_pos hd] at hv ⊢
   exact ⟨⟨hs, by show l.length + k ≤ 300; omega, h.steps, h.met⟩, Nat.le_refl _⟩
  ·rw [if_neg hd] at hv ⊢
   obtain ⟨_, _, _, q4, q5⟩ := zgi hs (by omega) (by simpa using hd)
   by_cases hf0 : fewD m (g ++ l) = []
   ·rw [if_pos hf0] at hv; cases hv
   ·rw [if_neg hf0] at hv ⊢
    by_cases hc : 600 < l.length + 1 ∨ 6000 < (roundN m (g ++ l) p).1.length
    ·rw [if_pos hc] at hv; cases hv
    ·rw [if_neg hc] at hv ⊢
     obtain ⟨a, b⟩ := goS_fit k _ _ ⟨(q5 hf0).1, by rw [List.length_append, List.length_singleton]; omega, by omega, zrk _ _ h.met⟩ hv
     exact ⟨a, by omega⟩
abbrev hpB (m : MdlD) (g l : List (List LitD)) (fuel : Int) (p : NoteS) (b : List Int) (nl : Bool) : List (Nat × HObj) := [(1000, .cells [.ptr 1001 0, .slN .int b nl]), (1001, .cells [.sl .var m.vars, .sl .con m.cons, dI m.goal, dI m.var, .sl (.list .lit) g, dI fuel, .own 2000, .own 2001, .own 1002]), (2000, .row 47 (.list .lit) l), (2001, .row 71 .step p.1), (1002, .mp .str .int p.2)]
theorem zcB {m : MdlD} {k : Nat} (h : Fit m [] [] k ([], [])) :
  SatH Tryz.prog zdf [.ptr 1000 0] (hpB m [] [] (k : Int) ([], []) [] true) (dI (bestRun m k).verdict) (hpB m (bestRun m k).given (bestRun m k).learned ((bestRun m k).fuel : Int) (bestRun m k).note (bestRun m k).best (bestRun m k).nl) :=
 zXA m.vars m.cons m.goal m.var [] (k : Int) [] [] [] [] true fun ok ok2 => by
  rw [zWA]
  suffices H : ∀ (n k : Nat) (g l : List (List LitD)) (p : NoteS) (b : List Int) (nl : Bool), Fit m g l k p → GivR m g b nl → k + 1 ≤ n → ∀ r, r = bestF m n k g l p b nl →
    zpi (fun d h1 => d = dI r.verdict ∧ h1 = hpB m r.given r.learned (r.fuel : Int) r.note r.best r.nl) n b nl m.vars m.cons m.goal m.var g (k : Int) p.2 l p.1 from ⟨_, H (k + 1) k [] [] ([], []) [] true h .none (Nat.le_refl _) _ rfl⟩
  intro n
  induction n with
  | zero => exact fun k g l p b nl _ _ hk => absurd hk (by omega)
  | succ n ih =>
   intro k g l p b nl h hg hk r hr
   rw [zVA]
   rw [bestF] at hr
   have hmr := h.sea.mc.right
   have hx := zhi k l p h.sea h.fuel
   have hfit := goS_fit k l p h
   refine ⟨_, _, _, _, _, _, z9A h, ?_⟩
   generalize goS m k g l p = q at hr hx hfit ⊢
   cases hx with
   | unknown q1 q2 =>
    rw [if_pos (.inl q1)] at hr
    rw [q1, hr]; exact ⟨by rw [q1], rfl⟩
   | none q1 q2 q3 =>
    rw [if_pos (.inr q1)] at hr
    rw [q1, hr]; exact ⟨by rw [q1], rfl⟩
   | found q1 q2 q3 q4 =>
    rw [if_neg (by rw [q1]; decide)] at hr
    obtain ⟨hf, hlt⟩ := hfit q1
    have hpos := h.sea.mc.pos
    rw [q1]
    refine ⟨fun e => ?_, za (fun e => ?_) fun e => ?_⟩
    ·have := q2.len; rw [e] at this; simp at this; omega
    ·rw [if_pos (of_decide_eq_true e)] at hr
     rw [hr, q1]; exact ⟨rfl, rfl⟩
    ·have h0 : m.goal ≠ 0 := of_decide_eq_false e
     rw [if_neg h0] at hr
     obtain ⟨e1, e2⟩ := zkk hmr h0 hg q2
     have hc : ∀ c ∈ [thanC m q.vals], clauseE m.vars.length c = 0 := fun c hc => by rw [List.mem_singleton.1 hc]; exact than_ok hmr h0 q2.full
     exact call1 (t := .list .lit) (zsk hmr q2.len (zUp hmr q2.full)) (ih q.fuel _ _ _ _ _ ⟨q3.give hc (Nat.le_refl _) e1, q4, hf.steps, hf.met⟩ (.some _ (zii q2) h0) (by omega) r hr)
noncomputable def bestA (m : MdlD) (fuel : Int) : AnsD := if readyS m fuel = 0 then bestS m fuel.toNat else ⟨0, [], []⟩
theorem zVp (m : MdlD) (fuel : Int) : Sat Tryz.prog zEd [dM m, dI fuel] (.tup [toD .ans (bestA m fuel), dI (readyS m fuel)]) :=
 zSA m fuel fun ok => by
  rw [zRA, bestA]
  refine call1 (zaB m fuel) (za (fun e => ?_) fun e => ?_)
  ·rw [if_neg (z7 e)]; rfl
  ·have e := z8 e
   obtain ⟨h1, h2, h3⟩ := zTp e
   obtain ⟨k, rfl⟩ : ∃ k : Nat, fuel = (k : Int) := ⟨fuel.toNat, by omega⟩
   rw [if_pos e, Int.toNat_natCast, e, bestS]
   have hrun := zcB (zbB h1 (k := k) (by omega))
   refine ⟨m, _, z3A m k, _, _, _, _, _, _, _, _, hrun, ?_⟩
   generalize bestRun m k = r
   have tail : ¬(m.goal = 0 ∧ r.verdict = 1) → ∃ p12 : List StepD, ∃ p13 : Bool, SatH Tryz.prog zRc [.ptr 1000 0] (hpS m r.given r.learned (r.fuel : Int) r.note) (.tup [.sl .step p12, dB p13]) [(1000, .cells [.sl .var m.vars, .sl .con m.cons, dI m.goal, dI m.var, .sl (.list .lit) r.given, dI (r.fuel : Int), .own 2000, .sl .step p12, .own 1001]), (2000, .row 47 (.list .lit) r.learned), (1001, .mp .str .int r.note.2)] ∧
     sel (decide (r.verdict = 3)) (D.tup [.agg [dI 3, .sl .int ([] : List Int), .sl .step ([] : List StepD)], dI 0] = .tup [toD .ans (if m.goal = 0 ∧ r.verdict = 1 then ⟨1, r.best, []⟩ else if r.verdict = 3 ∨ 6000 < r.note.1.length then ⟨3, [], []⟩ else if r.nl = true then ⟨2, [], r.note.1⟩ else ⟨1, r.best, r.note.1⟩), dI 0])
      (sel (!p13) (D.tup [.agg [dI 3, .sl .int ([] : List Int), .sl .step ([] : List StepD)], dI 0] = .tup [toD .ans (if m.goal = 0 ∧ r.verdict = 1 then ⟨1, r.best, []⟩ else if r.verdict = 3 ∨ 6000 < r.note.1.length then ⟨3, [], []⟩ else if r.nl = true then ⟨2, [], r.note.1⟩ else ⟨1, r.best, r.note.1⟩), dI 0])
       (sel r.nl (D.tup [.agg [dI 2, .sl .int ([] : List Int), .sl .step p12], dI 0] = .tup [toD .ans (if m.goal = 0 ∧ r.verdict = 1 then ⟨1, r.best, []⟩ else if r.verdict = 3 ∨ 6000 < r.note.1.length then ⟨3, [], []⟩ else if r.nl = true then ⟨2, [], r.note.1⟩ else ⟨1, r.best, r.note.1⟩), dI 0])
        (D.tup [.agg [dI 1, .sl .int r.best, .sl .step p12], dI 0] = .tup [toD .ans (if m.goal = 0 ∧ r.verdict = 1 then ⟨1, r.best, []⟩ else if r.verdict = 3 ∨ 6000 < r.note.1.length then ⟨3, [], []⟩ else if r.nl = true then ⟨2, [], r.note.1⟩ else ⟨1, r.best, r.note.1⟩), dI 0]))) := fun hn => by
    refine ⟨_, _, z2A (p := r.note), ?_⟩
    rw [if_neg hn]
    refine za (fun f => ?_) fun f => za (fun q => ?_) fun q => za (fun b => ?_) fun b => ?_
    ·rw [if_pos (.inl (of_decide_eq_true f))]; rfl
    ·have q : ¬(r.note.1.length : Int) ≤ 6000 := by simpa using q
     rw [if_pos (.inr (by omega))]; rfl
    ·have f := of_decide_eq_false f
     have q : (r.note.1.length : Int) ≤ 6000 := by simpa using q
     rw [if_neg (by omega), if_pos b]; rfl
    ·have f := of_decide_eq_false f
     have q : (r.note.1.length : Int) ≤ 6000 := by simpa using q
     rw [if_neg (by omega), if_neg (by rw [b]; decide)]; rfl
   refine za (fun f => za (fun q => ?_) fun q => ?_) fun f => ?_
   ·have f : m.goal = 0 := of_decide_eq_true f
    have q : r.verdict = 1 := of_decide_eq_true q
    rw [if_pos ⟨f, q⟩, q]; rfl
   ·exact tail fun h => (of_decide_eq_false q) h.2
   ·exact tail fun h => (of_decide_eq_false f) h.1
def betterE (m : MdlD) (vs : List Int) : Int := or0 (checkM m) (if vs.length ≠ m.vars.length then 1 else if m.goal ≠ 0 ∧ (vs.getD m.var.toNat 0 < (m.vars.getD m.var.toNat Ty.var.dflt).lo ∨ (m.vars.getD m.var.toNat Ty.var.dflt).hi < vs.getD m.var.toNat 0) then 3 else 0)
def betterC (m : MdlD) (vs : List Int) : List LitD := if betterE m vs = 0 then thanC m vs else []
theorem zdB (m : MdlD) (vs : List Int) : Sat Tryz.prog zDd [dM m, .sl .int vs] (.tup [.sl .lit (betterC m vs), dI (betterE m vs)]) :=
 zQA m vs fun ok => by
  rw [zPA, betterC]
  refine call1 (zPm m) (za (fun e => ?_) fun e => ?_)
  ·have e := z7 e
   have h : betterE m vs = checkM m := or0_ne e
   rw [h, if_neg e]
  ·have e := z8 e
   have hr := zbb e
   have h : betterE m vs = _ := or0_eq e
   refine za (fun f => ?_) fun f => ?_
   ·have f : ¬(vs.length : Int) = (m.vars.length : Int) := by simpa using f
    have h : betterE m vs = 1 := h.trans (if_pos (by omega))
    rw [h, if_neg (by decide)]
   ·have f : (vs.length : Int) = (m.vars.length : Int) := by simpa using f
    have f : vs.length = m.vars.length := by omega
    rw [if_neg (not_not_intro f)] at h
    refine za (fun g => ?_) fun g => ?_
    ·have g0 : m.goal ≠ 0 := z7 g
     obtain ⟨_, g2, g3⟩ := goal_of hr g0
     have i1 : inb m.var vs.length = true := inb_iff.2 ⟨g2, by omega⟩
     have i2 : inb m.var m.vars.length = true := inb_iff.2 ⟨g2, g3⟩
     refine ⟨i1, i2, za (fun q => ?_) fun q => ⟨i1, i2, za (fun q' => ?_) fun q' => ?_⟩⟩
     ·rw [if_pos ⟨g0, .inl (of_decide_eq_true q)⟩] at h
      rw [h, if_neg (by decide)]
     ·rw [if_pos ⟨g0, .inr (of_decide_eq_true q')⟩] at h
      rw [h, if_neg (by decide)]
     ·have q := of_decide_eq_false q
      have q' := of_decide_eq_false q'
      rw [if_neg fun x => x.2.elim q q'] at h
      rw [h, if_pos rfl]
      refine call1 (t := .list .lit) (zsk hr f fun _ => ?_) rfl
      have hvl : m.var.toNat < m.vars.length := by omega
      have hb := hr.var _ (List.getElem_mem hvl)
      have e1 : at' .var m.vars m.var.toNat = m.vars[m.var.toNat] := atN hvl
      have q2 : ¬(vs.getD m.var.toNat 0 : Int) < m.vars[m.var.toNat].lo := fun x => q (by rw [e1]; exact x)
      have q3 : ¬(m.vars[m.var.toNat].hi : Int) < vs.getD m.var.toNat 0 := fun x => q' (by rw [e1]; exact x)
      omega
    ·have g0 := z8 g
     rw [if_neg fun x => x.1 g0] at h
     rw [h, if_pos rfl]
     exact call1 (t := .list .lit) (zsk hr f fun x => absurd g0 x) rfl
end Go.Proofs.YtajnbkhgnppckaaGreatDoor
/- The laws of the best. -/
namespace Go.Proofs.YtajnbkhgnppckaaGreatDoor
open Go.RowKit
set_option linter.unusedVariables false
set_option linter.unusedSimpArgs false
theorem zeB {m : MdlD} (hr : Right m) {vs : List Int} (hl : vs.length = m.vars.length) (hb : m.goal ≠ 0 → -1000 ≤ vs.getD m.var.toNat 0 ∧ vs.getD m.var.toNat 0 ≤ 1000) : Sat Tryz.prog zTb [dM m, .sl .int vs] (.sl .lit (thanC m vs)) :=
 zTt m vs fun ok => by
  rw [zSt, thanC]
  have hin : m.goal ≠ 0 → inb m.var vs.length = true := fun h => by
   obtain ⟨_, a, b⟩ := goal_of hr h
   exact inb_iff.2 ⟨a, by omega⟩
  refine za (fun e => ?_) fun e => za (fun e' => ?_) fun e' => ?_
  ·have e : m.goal = 1 := of_decide_eq_true e
   have := hb (by omega)
   rw [if_pos e]
   refine ⟨hin (by omega), ?_⟩
   show D.sl .lit [(⟨m.var, 1, w64 (vs.getD m.var.toNat 0 - 1)⟩ : LitD)] = _
   rw [w64_eq (by omega) (by omega)]
  ·have e : ¬m.goal = 1 := of_decide_eq_false e
   have e' : m.goal = 2 := of_decide_eq_true e'
   have := hb (by omega)
   rw [if_neg e, if_pos e']
   refine ⟨hin (by omega), ?_⟩
   show D.sl .lit [(⟨m.var, 2, w64 (vs.getD m.var.toNat 0 + 1)⟩ : LitD)] = _
   rw [w64_eq (by omega) (by omega)]
  ·rw [if_neg (of_decide_eq_false e), if_neg (of_decide_eq_false e')]
theorem zWp {s : List (List Int)} {k : Nat} (h : k < s.length) : numS (s.take (k + 1)) = numS (s.take k) * s[k].length := by
 rw [← List.take_append_getElem h, zhk]
 simp [numS]
theorem zfB {s : List (List Int)} (h : ∀ r ∈ s, r.length ≤ 6) : numS s ≤ 6 ^ s.length := by
 induction s with
 | nil => exact Nat.le_refl _
 | cons r s ih =>
  rw [numS, List.length_cons, Nat.pow_succ, Nat.mul_comm]
  exact Nat.mul_le_mul (ih fun x hx => h x (List.mem_cons_of_mem _ hx)) (h r (List.mem_cons_self ..))
theorem zgB {m : MdlD} (hr : Right m) : ∀ r ∈ fullS m, r.length ≤ 6 := fun r hx => by
 obtain ⟨i, hi, rfl⟩ := List.getElem_of_mem hx
 have := zod hr i
 rwa [getD_at _ hi] at this
theorem zhB {m : MdlD} (hr : Right m) : Sat Tryz.prog zWb [dM m] (dI (numS (fullS m) : Int)) :=
 z4t m fun ok => by
  rw [z3t]
  have hv := hr.vars
  refine up (I := fun n v a => zUg m _ n a v) 0 m.vars.length rfl (Nat.zero_le _) (by omega) (fun k a => a = (numS ((fullS m).take k) : Int)) rfl fun n k a _ hk ha hn => ?_
  subst ha
  rw [z2t]
  by_cases h : k < m.vars.length
  ·have hf : k < (fullS m).length := by rw [zd]; exact h
   have hb := hr.var _ (List.getElem_mem h)
   have hlen : ((fullS m)[k].length : Int) = m.vars[k].hi - m.vars[k].lo + 1 := by
    have : (fullS m)[k] = fullV m.vars[k] := by simp [fullS]
    rw [this, fullV, z6b]; omega
   have hbd : numS ((fullS m).take (k + 1)) ≤ 46656 := by
    have h1 := zfB (s := (fullS m).take (k + 1)) fun r hx => zgB hr r (List.mem_of_mem_take hx)
    have h2 : ((fullS m).take (k + 1)).length ≤ 6 := by rw [List.length_take, zd]; omega
    exact Nat.le_trans h1 (Nat.le_trans (Nat.pow_le_pow_right (by decide) h2) (by decide))
   rw [zWp hf] at hbd
   rw [sel_lt h, at_nat (t := .var) h, w64_eq (n := m.vars[k].hi - m.vars[k].lo) (by omega) (by omega), w64_eq (n := m.vars[k].hi - m.vars[k].lo + 1) (by omega) (by omega), ← hlen]
   refine ⟨inb_nat h, inb_nat h, hn h _ ?_⟩
   rw [zWp hf, show (numS ((fullS m).take k) : Int) * ((fullS m)[k].length : Int) = ((numS ((fullS m).take k) * (fullS m)[k].length : Nat) : Int) by simp]
   exact w64_eq (by omega) (by omega)
  ·have hk' : k = m.vars.length := by omega
   subst hk'
   rw [sel_end, List.take_of_length_le (by rw [zd]; exact Nat.le_refl _)]
theorem zXp (a : AnsD) : Sat Tryz.prog zS [toD .ans a] (dB (decide (a.values = []) && decide (a.proof = []))) :=
 zkw a fun ok => by
  rw [zjw]
  refine za (fun e => ?_) fun e => ?_
  ·have e : (a.values.length : Int) = 0 := of_decide_eq_true e
   have h : a.values = [] := List.length_eq_zero_iff.1 (by omega)
   rw [h]
   congr 1
   cases a.proof with
   | nil => rfl
   | cons x l => exact decide_eq_false (by rw [List.length_cons]; omega)
  ·have e : ¬(a.values.length : Int) = 0 := of_decide_eq_false e
   have h : a.values ≠ [] := fun h => e (by rw [h]; rfl)
   rw [decide_eq_false h]; rfl
theorem ziB : runS twoM true [] (fullS twoM) = [[0, 1], [1, 2]] := runS_B (cons := true) two_mc zd 1 (by kernel_rfl) (by kernel_rfl) (by kernel_rfl)
theorem zjB : runS twoM true [] (keep1 [[0, 1], [1, 2]] 0 0) = [[0], [1, 2]] := runS_B (cons := true) two_mc (by kernel_rfl) 1 (by kernel_rfl) (by kernel_rfl) (by kernel_rfl)
theorem zkB : runS twoM true [] (keep1 [[0], [1, 2]] 1 1) = [[0], [1]] := runS_B (cons := true) two_mc (by kernel_rfl) 1 (by kernel_rfl) (by kernel_rfl) (by kernel_rfl)
theorem zlB : downS twoM ([] ++ []) = ([], true, [0, 1]) := by
 show downF twoM [] 3 (runS twoM true [] (fullS twoM)) [] = _
 rw [ziB, downF, if_neg (by decide), if_neg (by decide)]
 show downF twoM [] 2 (runS twoM true [] (keep1 [[0, 1], [1, 2]] 0 0)) _ = _
 rw [zjB, downF, if_neg (by decide), if_neg (by decide)]
 show downF twoM [] 1 (runS twoM true [] (keep1 [[0], [1, 2]] 1 1)) _ = _
 rw [zkB, downF, if_neg (by decide), if_pos (by decide)]
 rfl
theorem two_go {k : Nat} : goS twoM (k + 1) [] [] ([], []) = ⟨[0, 1], 1, k, [], ([], [])⟩ := by
 rw [goS, zlB, if_pos rfl]
theorem two_mcb : RightMC twoM ([[⟨1, 1, 0⟩]] ++ []) := zLb (by kernel_rfl) fun c hc => by rw [List.mem_singleton.1 hc]; kernel_rfl
theorem ztk : failS (runS twoM true ([[⟨1, 1, 0⟩]] ++ []) (fullS twoM)) = true := by
 rw [runS_B0 (cons := true) two_mcb zd 2 (by kernel_rfl)]
 exact zGb (by rw [zd]; exact two_mcb.pos)
theorem zYp : downS twoM ([[⟨1, 1, 0⟩]] ++ []) = ([], false, []) := by
 rw [downS, downF, if_pos ztk]
theorem zmB : (bestRun twoM 20).verdict = 2 ∧ (bestRun twoM 20).best = [0, 1] ∧ (bestRun twoM 20).nl = false ∧ (bestRun twoM 20).note.1.length ≤ 6000 := by
 have hf : fewD twoM ([[⟨1, 1, 0⟩]] ++ []) = [] := by
  rw [fewD, zYp]; exact zBp two_mcb ztk
 have hk : LearnOk twoM ([[⟨1, 1, 0⟩]] ++ []) [] := ⟨by kernel_rfl, by decide, fun c hc => (by rw [List.mem_singleton.1 hc]; kernel_rfl), by decide, fun x hx => (by cases hx), fun x hx => (by cases hx)⟩
 have ht := zek hk ztk
 have hgo : goS twoM 19 [[⟨1, 1, 0⟩]] [] ([], []) = ⟨[], 2, 18, [], roundN twoM ([[⟨1, 1, 0⟩]] ++ []) ([], [])⟩ := by
  rw [goS, if_neg (by rw [zYp]; decide), if_pos hf]
 have hlen : (roundN twoM ([[⟨1, 1, 0⟩]] ++ []) ([], [])).1.length ≤ 6000 := by
  have h1 := (zqk (traceS twoM ([[⟨1, 1, 0⟩]] ++ []) (fewD twoM ([[⟨1, 1, 0⟩]] ++ []))) ([], [])).1
  rw [hf] at h1
  have h2 := ht.len
  show (noteS _ _).1.length ≤ _
  rw [hf]
  have : (([], []) : NoteS).1.length = 0 := rfl
  omega
 have e : bestRun twoM 20 = ⟨2, [0, 1], false, [[⟨1, 1, 0⟩]], 18, [], roundN twoM ([[⟨1, 1, 0⟩]] ++ []) ([], [])⟩ := by
  show bestF twoM 21 20 [] [] ([], []) [] true = _
  rw [bestF, two_go, if_neg (by decide), if_neg (by decide)]
  show bestF twoM 20 19 [[⟨1, 1, 0⟩]] [] ([], []) [0, 1] false = _
  rw [bestF, hgo, if_pos (.inr rfl)]
 rw [e]
 exact ⟨rfl, rfl, rfl, hlen⟩
theorem two_ans : (bestA twoM 20).verdict = 1 ∧ (bestA twoM 20).values = [0, 1] ∧ 0 < (bestA twoM 20).proof.length := by
 obtain ⟨h1, h2, h3, h4⟩ := zmB
 have e : bestA twoM 20 = ⟨1, [0, 1], (bestRun twoM 20).note.1⟩ := by
  rw [bestA, if_pos (by kernel_rfl)]
  show bestS twoM 20 = _
  rw [bestS, if_neg (by rintro ⟨h, _⟩; exact absurd h (by decide)), if_neg (by rw [h1]; rintro (h | h); exact absurd h (by decide); omega), if_neg (by rw [h3]; decide), h2]
 have hs := zHp (m := twoM) (fuel := 20) (by kernel_rfl) (by decide)
 have e2 : bestA twoM 20 = bestS twoM 20 := by rw [bestA, if_pos (by kernel_rfl)]; rfl
 rw [← e2, e] at hs
 rw [e]
 refine ⟨rfl, rfl, ?_⟩
 cases hs with
 | any q0 => exact absurd q0 (by decide)
 | none q1 => exact absurd q1 (by decide)
 | unknown q1 => exact absurd q1 (by decide)
 | best q0 q1 q2 q3 q4 =>
  have := q3.right
  rw [proofB, Bool.and_eq_true, lastEmpty, Bool.and_eq_true] at this
  exact of_decide_eq_true this.2.1
theorem znB : Sat Tryz.prog zDd [dM twoM, .sl .int [0, 2]] (.tup [.sl .lit [⟨1, 1, 1⟩], dI 0]) := by
 have h := zdB twoM [0, 2]
 rwa [betterC, show betterE twoM [0, 2] = 0 by kernel_rfl, if_pos rfl, show thanC twoM [0, 2] = [⟨1, 1, 1⟩] by kernel_rfl] at h
theorem zoB : Sat Tryz.prog zUb [] (dB true) :=
 ziw fun ok => by
  rw [zhw]
  obtain ⟨h1, h2, h3⟩ := two_ans
  refine call1 (t := .mdl) z2m (call2 (t := .list .lit) (u := .int) znB (call1 (t := .mdl) z2m (call2 (t := .ans) (u := .int) (zVp twoM 20) ?_)))
  refine dt rfl (dt (show readyS twoM 20 = 0 by kernel_rfl) (call1 (t := .bool) (z1z _ _) (dt rfl (dt h1 (call1 (t := .bool) (zij _ _) (dt h2 ?_))))))
  rw [decide_eq_true (by omega)]
theorem zZp {m : MdlD} {g : List (List LitD)} {t : List StepD} (hg : ∀ c ∈ g, clauseE m.vars.length c = 0) (hgl : g.length ≤ 1) (h : ProofR m g t) (hl : t.length ≤ 6000) : stepsE m g t = 0 := by
 have e1 : firstE (fun _ (s : StepD) => clauseE m.vars.length s.clause) 0 t = 0 := zrd fun _ x hx => h.cl x hx
 have e2 : firstE (fun _ (s : StepD) => stepConF m s) 0 t = 0 := zrd fun _ x hx => by
  rw [stepConF, if_neg]
  rintro ⟨h1, h2⟩
  have := h.con x hx h1
  omega
 have e3 : rightsE m.vars.length g = 0 := by
  rw [rightsE, if_neg (by omega)]
  exact zrd fun _ x hx => hg x hx
 rw [stepsE, if_neg (by omega), e3, e1, e2]; rfl
set_option maxRecDepth 100000 in
theorem zqi {m : MdlD} {fuel : Int} {a : AnsD} {s w : Int} (hs : s = w) (he : w ≠ 0 → a = ⟨0, [], []⟩) (hz : w = 0 → checkM m = 0 ∧ ∃ k : Nat, fuel = k ∧ BestA m k a) :
  Call1 Tryz.prog zUb [] .bool fun c4 => sel (!c4) (dB false = dB true) (sel (!decide (s = w)) (dB false = dB true) (sel (!decide (w = 0)) (sel (decide (a.verdict = 0)) (Call1 Tryz.prog zS [.agg [dI a.verdict, .sl .int a.values, .sl .step a.proof]] .bool fun c5 => dB c5 = dB true) (dB false = dB true))
   (sel (decide (a.verdict = 1)) (sel (!decide ((a.values.length : Int) = (m.vars.length : Int))) (dB false = dB true) (Call1 Tryz.prog zVb [dM m, .sl .int a.values] .bool fun c6 => sel (!c6) (dB false = dB true) (sel (decide (m.goal = 0)) (dB (decide ((a.proof.length : Int) = 0)) = dB true)
    (Call1 Tryz.prog zTb [dM m, .sl .int a.values] (.list .lit) fun c7 => Call1 Tryz.prog zT [dM m, .sl (.list .lit) ([c7]), .sl .step a.proof] .int fun c8 => sel (decide (c8 = 0)) (Call1 Tryz.prog zU [dM m, .sl (.list .lit) ([c7]), .sl .step a.proof] .bool fun c9 => dB c9 = dB true) (dB false = dB true)))))
    (sel (decide (a.verdict = 2)) (sel (decide ((a.values.length : Int) = 0)) (Call1 Tryz.prog zT [dM m, .sl (.list .lit) ([] : List (List LitD)), .sl .step a.proof] .int fun c10 => sel (decide (c10 = 0)) (Call1 Tryz.prog zU [dM m, .sl (.list .lit) ([] : List (List LitD)), .sl .step a.proof] .bool fun c11 => dB c11 = dB true) (dB false = dB true)) (dB false = dB true))
     (sel (decide (a.verdict = 3)) (Call1 Tryz.prog zS [.agg [dI a.verdict, .sl .int a.values, .sl .step a.proof]] .bool fun c12 => sel c12 (sel (decide (fuel < 300)) (dB true = dB true) (Call1 Tryz.prog zWb [dM m] .int fun c13 => dB (decide (100 < c13)) = dB true)) (dB false = dB true)) (dB false = dB true)))))) := by
 subst hs
 refine call1 (t := .bool) zoB (bnf rfl (dnf rfl ?_))
 by_cases e : s = 0
 ·obtain ⟨hm, k, rfl, hx⟩ := hz e
  have hr := zbb hm
  have hnv : ([] : List (List LitD)).length ≤ 1 := by decide
  refine dnf e ?_
  cases hx with
  | any q0 q1 q2 q3 =>
   refine dt q1 (dnf (by rw [q2.len]) (call1 (t := .bool) (zlo hr q2.len) ?_))
   rw [q2.whole]
   exact bnf rfl (dt q0 (by rw [q3]; rfl))
  | best q0 q1 q2 q3 q4 =>
   have hc : ∀ c ∈ [thanC m a.values], clauseE m.vars.length c = 0 := fun c hc => by rw [List.mem_singleton.1 hc]; exact than_ok hr q0 q2.full
   have hst := zZp hc (Nat.le_refl _) q3 q4
   refine dt q1 (dnf (by rw [q2.len]) (call1 (t := .bool) (zlo hr q2.len) ?_))
   rw [q2.whole]
   refine bnf rfl (df q0 (call1 (t := .list .lit) (zeB hr q2.len (zUp hr q2.full)) (call1 (t := .int) (zNo hm _ _) (dt hst (call1 (t := .bool) (zOo (zMo hm hst)) ?_)))))
   rw [q3.right]
  | none q1 q2 q3 q4 =>
   have hst := zZp (g := []) (fun c hc => (by cases hc)) hnv q3 q4
   refine df (by rw [q1]; decide) (dt q1 (dt (by rw [q2]; rfl) (call1 (t := .int) (zNo hm _ _) (dt hst (call1 (t := .bool) (zOo (zMo hm hst)) ?_)))))
   rw [q3.right]
  | unknown q1 q2 q3 q4 =>
   refine df (by rw [q1]; decide) (df (by rw [q1]; decide) (dt q1 (call1 (t := .bool) (zXp a) ?_)))
   have hnn : (decide (a.values = []) && decide (a.proof = [])) = true := by simp [q2, q3]
   refine bt hnn (za (fun _ => rfl) fun f => ?_)
   have f : ¬(k : Int) < 300 := of_decide_eq_false f
   refine call1 (t := .int) (zhB hr) ?_
   rw [decide_eq_true (show (100 : Int) < (numS (fullS m) : Int) by omega)]
 ·have ha := he e
  subst ha
  exact dnt e (dt rfl (call1 (t := .bool) (zXp _) rfl))
theorem zpB {m : MdlD} {fuel : Int} (h : checkM m ≠ 0) : readyS m fuel = checkM m := or0_ne h
theorem z0p {m : MdlD} {fuel : Int} (h : checkM m = 0) (h2 : fuel < 0 ∨ 300 < fuel) : readyS m fuel = 3 := by rw [readyS, or0_eq h, if_pos h2]
theorem zqB {m : MdlD} {fuel : Int} (h : checkM m = 0) (h2 : 0 ≤ fuel ∧ fuel ≤ 300) : readyS m fuel = 0 := by rw [readyS, or0_eq h, if_neg (by omega)]
theorem bestA_0 {m : MdlD} {fuel : Int} (h : readyS m fuel ≠ 0) : bestA m fuel = ⟨0, [], []⟩ := if_neg h
theorem bestA_1 {m : MdlD} {fuel : Int} (h : readyS m fuel = 0) : checkM m = 0 ∧ ∃ k : Nat, fuel = k ∧ BestA m k (bestA m fuel) := by
 obtain ⟨h1, h2, h3⟩ := zTp h
 obtain ⟨k, rfl⟩ : ∃ k : Nat, fuel = (k : Int) := ⟨fuel.toNat, by omega⟩
 refine ⟨h1, k, rfl, ?_⟩
 rw [bestA, if_pos h, Int.toNat_natCast]
 exact zHp h1 (by omega)
set_option maxRecDepth 100000 in
theorem zrB (m : MdlD) (fuel : Int) : Sat Tryz.prog zql [dM m, dI fuel] (dB true) :=
 zgw m fuel fun ok => by
  rw [zfw]
  refine call2 (t := .ans) (u := .int) (zVp m fuel) (call1 (t := .int) (zaw m) ?_)
  by_cases e : checkM m = 0
  ·refine dt e (za (fun f => ?_) fun f => za (fun f' => ?_) fun f' => ?_)
   ·have h := z0p e (.inl (of_decide_eq_true f))
    exact zqi h (fun _ => bestA_0 (by rw [h]; decide)) fun x => absurd x (by decide)
   ·have h := z0p e (.inr (of_decide_eq_true f'))
    exact zqi h (fun _ => bestA_0 (by rw [h]; decide)) fun x => absurd x (by decide)
   ·have h := zqB e (fuel := fuel) (by have := of_decide_eq_false f; have := of_decide_eq_false f'; omega)
    exact zqi (h.trans e.symm) (fun x => absurd e x) fun _ => bestA_1 h
  ·have h := zpB (fuel := fuel) e
   exact df e (zqi h (fun _ => bestA_0 (by rw [h]; exact e)) fun x => absurd x e)
end Go.Proofs.YtajnbkhgnppckaaGreatDoor
