/- Texts of this proof, one behind the other: nothing is handed in but what is proved here; no condition. -/
import Derived.Test.YtajnbkhgnppckaaGreatDoorML
import Derived.Test.YtajnbkhgnppckaaGreatDoorMK
import Derived.Test.YtajnbkhgnppckaaGreatDoorWSearch
import Derived.Test.YtajnbkhgnppckaaGreatDoorWBest
import Derived.Test.YtajnbkhgnppckaaGreatDoorWCordonlaw
import Derived.Test.YtajnbkhgnppckaaGreatDoorWCordonref
/- Searches: what the program's calls do. -/
namespace Go.Proofs.YtajnbkhgnppckaaGreatDoor
open Go.RowKit
set_option linter.unusedVariables false
set_option linter.unusedSimpArgs false
abbrev hpS (m : MdlD) (g l : List (List LitD)) (fuel : Int) (p : NoteS) : List (Nat × HObj) := [(1000, .cells [.sl .var m.vars, .sl .con m.cons, dI m.goal, dI m.var, .sl (.list .lit) g, dI fuel, .own 2000, .own 2001, .own 1001]), (2000, .row 47 (.list .lit) l), (2001, .row 71 .step p.1), (1001, .mp .str .int p.2)]
def LitI (x : LitD) : Prop := inI64 x.var ∧ inI64 x.op ∧ inI64 x.n
theorem litI_of {nv : Nat} {x : LitD} (hn : nv ≤ 6) (h : litE nv x = 0) : LitI x := by
 obtain ⟨h1, h2, h3⟩ := zI.1 h
 exact ⟨by unfold inI64; omega, by unfold inI64; omega, by unfold inI64; omega⟩
theorem zBx (c : List LitD) (x : LitD) : keyC (c ++ [x]) = keyC c ++ litK x := by rw [keyC, List.foldl_append]; rfl
theorem zCx : ∀ {c : List LitD}, (∀ x ∈ c, LitI x) → (keyC c).size ≤ c.length * 66 := fun {c} => by
 suffices H : ∀ (c : List LitD) (o : ByteArray), (∀ x ∈ c, LitI x) → (c.foldl (fun o x => o ++ litK x) o).size ≤ o.size + c.length * 66 from fun h => by
  have := H c ⟨#[]⟩ h
  rw [keyC]
  have e : (⟨#[]⟩ : ByteArray).size = 0 := rfl
  omega
 intro c
 induction c with
 | nil => exact fun o _ => by simp
 | cons x c ih =>
  intro o h
  have h1 := ih (o ++ litK x) fun y hy => h y (List.mem_cons_of_mem _ hy)
  obtain ⟨a, b, d⟩ := h x (List.mem_cons_self ..)
  have h2 := z3w a b d
  rw [ByteArray.size_append] at h1
  rw [List.foldl_cons, List.length_cons]
  omega
theorem zDx {c : List LitD} (hl : c.length ≤ 1000000) (hr : ∀ x ∈ c, LitI x) : Sat Tryz.prog zse [.sl .lit c] (.str (keyC c)) :=
 zrx c fun ok => by
  rw [zqx]
  refine up (I := fun n v a => zEg c _ n a v) 0 c.length rfl (Nat.zero_le _) (by omega) (fun k a => a = keyC (c.take k)) rfl fun n k a _ hk ha hn => ?_
  subst ha
  rw [zpx]
  by_cases h : k < c.length
  ·rw [sel_lt h, at_nat (t := .lit) h]
   obtain ⟨h1, h2, h3⟩ := hr _ (List.getElem_mem h)
   have s1 := z3b h1; have s2 := z3b h2; have s3 := z3b h3
   have s0 := zCx (c := c.take k) fun x hx => hr x (List.mem_of_mem_take hx)
   rw [List.length_take] at s0
   have z58 : (⟨#[58]⟩ : ByteArray).size = 1 := rfl
   have z32 : (⟨#[32]⟩ : ByteArray).size = 1 := rfl
   refine ⟨inb_nat h, call1 (t := .str) (itoa_ok h1) ⟨by omega, call1 (t := .str) (itoa_ok h2) ⟨?_, ?_, call1 (t := .str) (itoa_ok h3) ⟨?_, ?_, ?_, ?_⟩⟩⟩⟩
   ·rw [ByteArray.size_append]; omega
   ·simp only [ByteArray.size_append]; omega
   ·simp only [ByteArray.size_append]; omega
   ·simp only [ByteArray.size_append]; omega
   ·simp only [ByteArray.size_append]; omega
   ·refine hn h _ ?_
    rw [← List.take_append_getElem h, zBx]; rfl
  ·have hk' : k = c.length := by omega
   subst hk'
   rw [sel_end, List.take_length]
theorem zEx (s : List (List Int)) : Sat Tryz.prog zle [dS s] (dI (openI s)) :=
 zmx s fun ok => by
  rw [zlx]
  refine seek (t := .list .int) (p := fun r : List Int => decide (1 < r.length)) (R := fun d => d = dI (openI s)) (okLen (t := .list .int) (ok1 ok)) rfl (fun n k h h1 h2 => ?_) fun n hR => ?_
  ·rw [z9m, sel_lt h, at_nat (t := .list .int) h]
   refine ⟨inb_nat h, za (fun e => h1 ?_) fun e => h2 ?_⟩
   ·have e : (1 : Int) < (s[k].length : Int) := of_decide_eq_true e
    exact decide_eq_true (by omega)
   ·have e : ¬(1 : Int) < (s[k].length : Int) := of_decide_eq_false e
    exact decide_eq_false (by omega)
  ·rw [z9m, sel_end]; exact hR
theorem zqi {m : MdlD} {g l : List (List LitD)} {fuel : Int} {p : NoteS} (hg : g.length ≤ 1000000) (hl : l.length ≤ 1000000) : SatH Tryz.prog zhc [.ptr 1000 0] (hpS m g l fuel p) (.sl (.list .lit) (g ++ l)) (hpS m g l fuel p) :=
 zhx m.vars m.cons m.goal m.var g fuel l p.1 p.2 fun ok ok2 => by
  rw [zgx]
  simp only [dup2_eq, dup3_eq, and_self, -eq_self]
  refine ⟨room_of (t := .list .lit) ?_, room_of (t := .list .lit) ?_, rfl, rfl⟩
  ·show (0 + g.length) * 24 ≤ _; omega
  ·rw [List.nil_append]; show (g.length + l.length) * 24 ≤ _; omega
theorem zFx {m : MdlD} {g l : List (List LitD)} {fuel : Int} {p : NoteS} : SatH Tryz.prog zfc [.ptr 1000 0] (hpS m g l fuel p) (.tup [.sl .step p.1, dB (decide ((p.1.length : Int) ≤ 6000))]) [(1000, .cells [.sl .var m.vars, .sl .con m.cons, dI m.goal, dI m.var, .sl (.list .lit) g, dI fuel, .own 2000, .sl .step p.1, .own 1001]), (2000, .row 47 (.list .lit) l), (1001, .mp .str .int p.2)] :=
 zbx m.vars m.cons m.goal m.var g fuel l p.1 p.2 fun ok ok2 => by
  rw [zax]
  exact ⟨rfl, rfl⟩
theorem zGx (m : MdlD) (fuel : Int) : SatH Tryz.prog zbe [dM m, dI fuel] [] (.ptr 3000 0) [(3000, .cells [.sl .var m.vars, .sl .con m.cons, dI m.goal, dI m.var, .sl (.list .lit) [], dI fuel, .nil, .nil, .own 3001]), (3001, .mp .str .int [])] :=
 z7w m fuel fun ok ok2 => by
  rw [z6w]
  exact ⟨rfl, rfl⟩
theorem zen {p : NoteS} {st : StepD} : (note1 p st).1.length ≤ p.1.length + 1 ∧ (note1 p st).2.length ≤ p.2.length + 1 := by
 unfold note1
 split
 ·refine ⟨by simp, ?_⟩
  show (mput .str .int (keyC st.clause) 1 p.2).length ≤ _
  generalize p.2 = es
  induction es with
  | nil => exact Nat.le_refl _
  | cons e es ih =>
   obtain ⟨a, b⟩ := e
   show (bif keq .str (keyC st.clause) a then (a, (1 : Int)) :: es else (a, b) :: mput .str .int (keyC st.clause) 1 es).length ≤ _
   cases keq .str (keyC st.clause) a
   ·rw [cond_false, List.length_cons, List.length_cons]; omega
   ·rw [cond_true, List.length_cons, List.length_cons]; omega
 ·omega
theorem zri : ∀ (t : List StepD) (p : NoteS), (noteS t p).1.length ≤ p.1.length + t.length ∧ (noteS t p).2.length ≤ p.2.length + t.length
 | [], p => ⟨Nat.le_refl _, Nat.le_refl _⟩
 | st :: t, p => by
  have h1 := zen (p := p) (st := st)
  have h2 := zri t (note1 p st)
  show (noteS t (note1 p st)).1.length ≤ _ ∧ (noteS t (note1 p st)).2.length ≤ _
  rw [List.length_cons]; omega
theorem zHx {m : MdlD} {g l : List (List LitD)} {fuel : Int} {p : NoteS} {t : List StepD} (h1 : p.1.length ≤ 1000000) (h2 : p.2.length ≤ 1000000) (ht : t.length ≤ 1000000) (hc : ∀ st ∈ t, st.clause.length ≤ 1000000 ∧ ∀ x ∈ st.clause, LitI x) :
  SatH Tryz.prog zhe [.ptr 1000 0, .sl .step t] (hpS m g l fuel p) (.tup []) (hpS m g l fuel (noteS t p)) :=
 zkx m.vars m.cons m.goal m.var g fuel l p.1 p.2 t fun ok ok2 => by
  rw [zjx]
  refine up (I := fun n v (a : NoteS) => zIc t _ n v m.vars m.cons m.goal m.var g fuel a.2 l a.1) (a := p) 0 t.length rfl (Nat.zero_le _) (by omega) (fun k a => a = noteS (t.take k) p) rfl fun n k a _ hk ha hn => ?_
  subst ha
  show zIc t _ _ _ _ _ _ _ _ _ (noteS (t.take k) p).2 _ (noteS (t.take k) p).1
  rw [zix]
  by_cases h : k < t.length
  ·rw [sel_lt h, at_nat (t := .step) h]
   obtain ⟨c1, c2⟩ := hc _ (List.getElem_mem h)
   have hs : noteS (t.take (k + 1)) p = note1 (noteS (t.take k) p) t[k] := by
    rw [← List.take_append_getElem h]; exact List.foldl_append ..
   obtain ⟨n1, n2⟩ := zri (t.take k) p
   rw [List.length_take] at n1 n2
   refine ⟨inb_nat h, call1 (t := .str) (zDx c1 c2) (za (fun e => ?_) fun e => ?_)⟩
   ·have e : metK t[k].clause (noteS (t.take k) p).2 = 0 := of_decide_eq_true e
    refine ⟨decide_eq_true (by omega), room_of (t := .step) (by show ((noteS (t.take k) p).1.length + 1) * 40 ≤ _; omega), hn h (_, _) ?_⟩
    rw [hs, note1, if_pos e]
   ·have e : ¬metK t[k].clause (noteS (t.take k) p).2 = 0 := of_decide_eq_false e
    refine hn h _ ?_
    rw [hs, note1, if_neg e]
  ·have hk' : k = t.length := by omega
   subst hk'
   rw [sel_end, List.take_length]
   exact ⟨rfl, rfl⟩
end Go.Proofs.YtajnbkhgnppckaaGreatDoor
/- Searches: the way down, the rounds, and what is answered. -/
namespace Go.Proofs.YtajnbkhgnppckaaGreatDoor
open Go.RowKit
set_option linter.unusedVariables false
set_option linter.unusedSimpArgs false
theorem zIx {s : List (List Int)} {k : Nat} (h : k < s.length) : valsS (s.take (k + 1)) = valsS (s.take k) ++ [s[k].getD 0 0] := by
 rw [valsS, ← List.take_append_getElem h, List.map_append]; rfl
theorem zJx (s : List (List Int)) (v n : Int) (x : LitD) (hx : x.n = n) : Sat Tryz.prog zC [dS s, .clo zpe none [.iptr [dI v] 0, .iptr (cells .lit x) 0]] (dS (keep1 s v n)) :=
 zdd (f := fun w k => !decide ((w : Int) = v) || decide (k = n)) z0r fun w hw k hk => zox w k v x fun ok => by
  rw [znx]
  refine za (fun e => ?_) fun e => ?_
  ·rw [e]; rfl
  ·rw [e, Bool.false_or, hx]
theorem zKx {m : MdlD} {g l : List (List LitD)} {fuel : Int} {p : NoteS} (hmc : RightMC m (g ++ l)) (hg : g.length ≤ 1000000) (hl : l.length ≤ 1000000) :
  SatH Tryz.prog zfe [.ptr 1000 0] (hpS m g l fuel p) (.tup [.slN .lit (downS m (g ++ l)).1 (downS m (g ++ l)).2.1, .sl .int (downS m (g ++ l)).2.2]) (hpS m g l fuel p) :=
 zfx m.vars m.cons m.goal m.var g fuel l p.1 p.2 fun ok ok2 => by
  rw [zex]
  have hr := hmc.right
  have hv := hr.vars
  refine ⟨_, zqi hg hl, call1 (full_ok hr) (call1 (zeg hmc (zGb hr zAd) (by rw [List.length_append]; omega)) ?_)⟩
  generalize hL : g ++ l = L at hmc ⊢
  suffices H : ∀ (k : Nat) (d : List LitD), WayR m L d → m.vars.length + 1 ≤ k + d.length → ∀ r, r = downF m L k (fixD m L d) d →
    zBg p.2 (fun d h1 => d = .tup [.slN .lit r.1 r.2.1, .sl .int r.2.2] ∧ h1 = hpS m g l fuel p) L k (fixD m L d) d m.vars m.cons m.goal m.var g fuel l p.1 from ⟨_, H (m.vars.length + 1) [] .nil (by simp) _ rfl⟩
  intro k
  induction k with
  | zero => exact fun d hc hk => absurd hc.len (by omega)
  | succ k ih =>
   intro d hc hk r hr'
   rw [zdx]
   simp only [dup2_eq, dup3_eq, and_self, -eq_self]
   rw [downF] at hr'
   have hlen : (fixD m L d).length = m.vars.length := zGc hmc
   refine call1 (zr _) (za (fun e => ?_) fun e => ?_)
   ·have hf : failS (fixD m L d) = false := by simpa using e
    rw [if_neg (by rw [hf]; decide)] at hr'
    refine call1 (zEx _) ?_
    rcases zIm (fixD m L d) with ⟨eo, h1⟩ | ⟨v, eo, hv', h1, h2⟩
    ·rw [if_pos (by omega)] at hr'
     rw [decide_eq_true (show openI (fixD m L d) < 0 by omega), hr']
     have hne := zw.1 hf
     refine up (I := fun n v a => zAg p.2 _ k (fixD m L d) m.vars m.cons m.goal m.var g fuel n v a l p.1) (a := []) 0 (fixD m L d).length rfl (Nat.zero_le _) (by omega) (fun k a => a = valsS ((fixD m L d).take k)) rfl fun n j a _ hj ha hn => ?_
     subst ha
     rw [zcx]
     by_cases h : j < (fixD m L d).length
     ·have hrow : 0 < (fixD m L d)[j].length := List.length_pos_iff.2 (by have := hne j h; rwa [getD_at _ h] at this)
      rw [sel_lt h, at_nat (t := .list .int) h]
      refine ⟨inb_nat h, inb_nat (k := 0) hrow, room_of (t := .int) ?_, hn h _ ?_⟩
      ·rw [valsS, List.length_map, List.length_take]; show (_ + 1) * 8 ≤ _; omega
      ·rw [zIx h]; rfl
     ·have hj' : j = (fixD m L d).length := by omega
      subst hj'
      rw [sel_end, List.take_length]
      exact ⟨rfl, rfl⟩
    ·rw [if_neg (by omega), eo, Int.toNat_natCast, ztg hmc hf] at hr'
     rw [eo, decide_eq_false (show ¬(v : Int) < 0 by omega)]
     have hvn : v < m.vars.length := by omega
     have hc' := hc.step hmc hf hvn eo h1 h2
     have e1 : at' (.list .int) (fixD m L d) (v : Int).toNat = (fixD m L d).getD v [] := by rw [at_nat hv', getD_at _ hv']
     have e2 : at' .int ((fixD m L d).getD v []) 0 = ((fixD m L d).getD v []).getD 0 0 := rfl
     rw [e1, e2]
     refine ⟨inb_nat hv', inb_nat (k := 0) (by omega), room_of (t := .lit) ?_, call1 (zJx _ _ _ ⟨v, 3, ((fixD m L d).getD v []).getD 0 0⟩ rfl) (call1 (zeg hmc ?_ (by rw [← hL, List.length_append]; omega)) ?_)⟩
     ·have := hc.len
      show (d.length + 1) * 24 ≤ _; omega
     ·exact zGb hr (zbg zAd (zZb.trans (z2b hmc)))
     ·rw [ztg hmc hf]
      exact ih _ hc' (by rw [List.length_append, List.length_singleton]; omega) r hr'
   ·have hf : failS (fixD m L d) = true := by simpa using e
    rw [if_pos hf] at hr'
    rw [hr']
    exact ⟨rfl, rfl⟩
structure Fit (m : MdlD) (g l : List (List LitD)) (k : Nat) (p : NoteS) : Prop where
 sea : Sea m g l p
 fuel : l.length + k ≤ 300
 steps : p.1.length ≤ 6000
 met : p.2.length ≤ p.1.length
theorem zLx {p : NoteS} {st : StepD} (h : p.2.length ≤ p.1.length) : (note1 p st).2.length ≤ (note1 p st).1.length := by
 have h1 := (zen (p := p) (st := st)).2
 by_cases e : metK st.clause p.2 = 0
 ·have h2 : (note1 p st).1.length = p.1.length + 1 := by rw [note1, if_pos e]; simp
  omega
 ·rw [note1, if_neg e]; exact h
theorem zsi : ∀ (t : List StepD) (p : NoteS), p.2.length ≤ p.1.length → (noteS t p).2.length ≤ (noteS t p).1.length
 | [], p, h => h
 | st :: t, p, h => zsi t (note1 p st) (zLx h)
theorem zMx {m : MdlD} {g l : List (List LitD)} {k : Nat} {p : NoteS} (h : Fit m g l k p) :
  SatH Tryz.prog zce [.ptr 1000 0] (hpS m g l (k : Int) p) (.tup [.sl .int (goS m k g l p).vals, dI (goS m k g l p).verdict]) (hpS m g (goS m k g l p).learned ((goS m k g l p).fuel : Int) (goS m k g l p).note) :=
 z9w m.vars m.cons m.goal m.var g (k : Int) l p.1 p.2 fun ok ok2 => by
  rw [z8w]
  suffices H : ∀ (k : Nat) (l : List (List LitD)) (p : NoteS), Fit m g l k p → ∀ r, r = goS m k g l p →
    zzg (fun d h1 => d = .tup [.sl .int r.vals, dI r.verdict] ∧ h1 = hpS m g r.learned (r.fuel : Int) r.note) (k + 1) m.vars m.cons m.goal m.var g (k : Int) p.2 l p.1 from ⟨_, H k l p h _ rfl⟩
  intro k
  induction k with
  | zero =>
   intro l p h r hr
   rw [z6m, hr]
   exact ⟨rfl, rfl⟩
  | succ k ih =>
   intro l p h r hr
   have hs := h.sea
   have hf := h.fuel
   have hp := h.steps
   have hm2 := h.met
   have hgl := hs.glen
   have hmc := hs.mc
   have hw : w64 (((k + 1 : Nat) : Int) - 1) = (k : Int) := by rw [w64_eq (by omega) (by omega)]; omega
   rw [z6m, hw]
   simp only [dup2_eq, dup3_eq, and_self, -eq_self]
   rw [goS] at hr
   rw [decide_eq_false (show ¬((k + 1 : Nat) : Int) = 0 by omega)]
   refine ⟨_, _, _, zKx hmc (by omega) (by omega), za (fun hd => ?_) fun hd => ?_⟩
   ·rw [if_pos hd] at hr
    rw [hr]; exact ⟨rfl, rfl⟩
   ·rw [if_neg (by rw [hd]; decide)] at hr
    obtain ⟨q1, q2, q3, q4, q5⟩ := zvg hs (by omega) hd
    have hkf : LearnOk m (g ++ l) (fewD m (g ++ l)) := q1.sub zqg
    have hff : failsB m (g ++ l) (fewD m (g ++ l)) = true := zsm q2
    have ht := zhi hkf hff
    have hgl2 : (g ++ l).length ≤ 1000000000 := by rw [List.length_append]; omega
    have hdl := q1.dl
    have hfew := zww hmc hgl2 (show (downS m (g ++ l)).1.length ≤ 1000000 by omega)
    rw [if_pos q2] at hfew
    have hnv := hmc.right.vars
    have hsz := zym hmc.right
    refine ⟨_, zqi (by omega) (by omega), call2 (t := .list .lit) (u := .bool) hfew ⟨_, zqi (by omega) (by omega), call1 (t := .list .step) (zDw hkf) ⟨_, _, zHx (by omega) (by omega) (show (traceS m (g ++ l) (fewD m (g ++ l))).length ≤ 1000000 by have := ht.len; omega) (fun st hst => ?_), ?_⟩⟩⟩
    ·obtain ⟨c1, c2⟩ := zid (ht.cl st hst)
     exact ⟨by omega, fun x hx => litI_of hnv (c2 x hx)⟩
    ·have e0 : noteS (traceS m (g ++ l) (fewest m (g ++ l) (downS m (g ++ l)).1)) p = roundN m (g ++ l) p := rfl
     have e1 : fewest m (g ++ l) (downS m (g ++ l)).1 = fewD m (g ++ l) := rfl
     rw [e0, e1]
     by_cases hf0 : fewD m (g ++ l) = []
     ·rw [if_pos hf0] at hr
      rw [hf0, decide_eq_true (show (([] : List LitD).length : Int) = 0 from rfl), hr]
      exact ⟨rfl, rfl⟩
     ·rw [if_neg hf0] at hr
      have hl0 : (fewD m (g ++ l)).length ≠ 0 := fun e => hf0 (List.length_eq_zero_iff.1 e)
      rw [decide_eq_false (show ¬((fewD m (g ++ l)).length : Int) = 0 by omega)]
      have hfl := hkf.dl
      refine call1 (t := .list .lit) (zCm (by omega) hkf.near) ⟨room_of (t := .list .lit) (by show (l.length + 1) * 24 ≤ _; omega), ?_⟩
      have e2 : (l ++ [(fewD m (g ++ l)).map oppL]).length = l.length + 1 := by simp
      refine za (fun e => ?_) fun e => za (fun e' => ?_) fun e' => ?_
      ·have e : (600 : Int) < ((l ++ [(fewD m (g ++ l)).map oppL]).length : Int) := of_decide_eq_true e
       rw [if_pos (.inl (by omega))] at hr
       rw [hr]; exact ⟨rfl, rfl⟩
      ·have e' : (6000 : Int) < ((roundN m (g ++ l) p).1.length : Int) := of_decide_eq_true e'
       rw [if_pos (.inr (by omega))] at hr
       rw [hr]; exact ⟨rfl, rfl⟩
      ·have e : ¬(600 : Int) < ((l ++ [(fewD m (g ++ l)).map oppL]).length : Int) := of_decide_eq_false e
       have e' : ¬(6000 : Int) < ((roundN m (g ++ l) p).1.length : Int) := of_decide_eq_false e'
       rw [if_neg (by omega)] at hr
       exact ih _ (roundN m (g ++ l) p) ⟨(q5 hf0).1, by omega, by omega, zsi _ _ hm2⟩ r hr
def readyS (m : MdlD) (fuel : Int) : Int := or0 (checkM m) (if fuel < 0 ∨ 300 < fuel then 3 else 0)
theorem zNx (m : MdlD) (fuel : Int) : Sat Tryz.prog zae [dM m, dI fuel] (dI (readyS m fuel)) :=
 z5w m fuel fun ok => by
  rw [z4w]
  refine call1 (zbd m) (za (fun e => ?_) fun e => ?_)
  ·rw [readyS, or0_ne (zV e)]
  ·rw [readyS, or0_eq (zN e)]
   refine za (fun f => ?_) fun f => za (fun f' => ?_) fun f' => ?_
   ·rw [if_pos (.inl (of_decide_eq_true f))]
   ·rw [if_pos (.inr (of_decide_eq_true f'))]
   ·have f := of_decide_eq_false f
    have f' := of_decide_eq_false f'
    rw [if_neg (by omega)]
theorem zfn {m : MdlD} {fuel : Int} (h : readyS m fuel = 0) : checkM m = 0 ∧ 0 ≤ fuel ∧ fuel ≤ 300 := by
 obtain ⟨h1, h2⟩ := z4h h
 refine ⟨h1, ?_⟩
 split at h2
 ·cases h2
 ·omega
theorem zOx {m : MdlD} (h : checkM m = 0) {k : Nat} (hk : k ≤ 300) : Fit m [] [] k ([], []) := ⟨.begin h, by simpa using hk, Nat.zero_le _, Nat.le_refl _⟩
end Go.Proofs.YtajnbkhgnppckaaGreatDoor
/- The best: what the program's calls do. -/
namespace Go.Proofs.YtajnbkhgnppckaaGreatDoor
open Go.RowKit
set_option linter.unusedVariables false
set_option linter.unusedSimpArgs false
theorem zti {m : MdlD} (hr : Right m) {vs : List Int} (hl : vs.length = m.vars.length) (hb : m.goal ≠ 0 → -1000 ≤ vs.getD m.var.toNat 0 ∧ vs.getD m.var.toNat 0 ≤ 1000) : Sat Tryz.prog zgc [dM m, .sl .int vs] (.sl .lit (thanC m vs)) :=
 zxx m vs fun ok => by
  rw [zwx, thanC]
  have hin : m.goal ≠ 0 → inb m.var vs.length = true := fun h => by
   obtain ⟨_, a, b⟩ := goal_of hr h
   exact inb_iff.2 ⟨a, by omega⟩
  refine za (fun e => ?_) fun e => za (fun e' => ?_) fun e' => ?_
  ·have e : m.goal = 1 := of_decide_eq_true e
   have := hb (by omega)
   rw [if_pos e]
   refine ⟨hin (by omega), ?_⟩
   show D.sl .lit [(⟨m.var, 1, w64 (vs.getD m.var.toNat 0 - 1)⟩ : LitD)] = _
   rw [w64_eq (by omega) (by omega)]
  ·have e : ¬m.goal = 1 := of_decide_eq_false e
   have e' : m.goal = 2 := of_decide_eq_true e'
   have := hb (by omega)
   rw [if_neg e, if_pos e']
   refine ⟨hin (by omega), ?_⟩
   show D.sl .lit [(⟨m.var, 2, w64 (vs.getD m.var.toNat 0 + 1)⟩ : LitD)] = _
   rw [w64_eq (by omega) (by omega)]
  ·rw [if_neg (of_decide_eq_false e), if_neg (of_decide_eq_false e')]
theorem zPx {m : MdlD} (hr : Right m) {vs : List Int} (hv : InS vs (fullS m)) (h : m.goal ≠ 0) : -1000 ≤ vs.getD m.var.toNat 0 ∧ vs.getD m.var.toNat 0 ≤ 1000 := by
 obtain ⟨_, g2, g3⟩ := goal_of hr h
 have hvl : m.var.toNat < m.vars.length := by omega
 have := hv.2 m.var.toNat (by rw [zc]; exact hvl)
 rw [zpb hvl, zBc] at this
 have hb := hr.var _ (List.getElem_mem hvl)
 omega
theorem goS_fit {m : MdlD} {g : List (List LitD)} : ∀ (k : Nat) (l : List (List LitD)) (p : NoteS), Fit m g l k p → (goS m k g l p).verdict = 1 → Fit m g (goS m k g l p).learned (goS m k g l p).fuel (goS m k g l p).note ∧ (goS m k g l p).fuel + 1 ≤ k
 | 0, l, p, h, hv => by cases hv
 | k + 1, l, p, h, hv => by
  have hs := h.sea
  have hf := h.fuel
  rw [goS] at hv ⊢
  by_cases hd : (downS m (g ++ l)).2.1 = true
  ·rw [if_pos hd] at hv ⊢
   exact ⟨⟨hs, by show l.length + k ≤ 300; omega, h.steps, h.met⟩, Nat.le_refl _⟩
  ·rw [if_neg hd] at hv ⊢
   obtain ⟨_, _, _, q4, q5⟩ := zvg hs (by omega) (by simpa using hd)
   by_cases hf0 : fewD m (g ++ l) = []
   ·rw [if_pos hf0] at hv; cases hv
   ·rw [if_neg hf0] at hv ⊢
    by_cases hc : 600 < l.length + 1 ∨ 6000 < (roundN m (g ++ l) p).1.length
    ·rw [if_pos hc] at hv; cases hv
    ·rw [if_neg hc] at hv ⊢
     obtain ⟨a, b⟩ := goS_fit k _ _ ⟨(q5 hf0).1, by rw [List.length_append, List.length_singleton]; omega, by omega, zsi _ _ h.met⟩ hv
     exact ⟨a, by omega⟩
abbrev hpB (m : MdlD) (g l : List (List LitD)) (fuel : Int) (p : NoteS) (b : List Int) (nl : Bool) : List (Nat × HObj) := [(1000, .cells [.ptr 1001 0, .slN .int b nl]), (1001, .cells [.sl .var m.vars, .sl .con m.cons, dI m.goal, dI m.var, .sl (.list .lit) g, dI fuel, .own 2000, .own 2001, .own 1002]), (2000, .row 47 (.list .lit) l), (2001, .row 71 .step p.1), (1002, .mp .str .int p.2)]
theorem zQx {m : MdlD} {k : Nat} (h : Fit m [] [] k ([], [])) :
  SatH Tryz.prog zde [.ptr 1000 0] (hpB m [] [] (k : Int) ([], []) [] true) (dI (bestRun m k).verdict) (hpB m (bestRun m k).given (bestRun m k).learned ((bestRun m k).fuel : Int) (bestRun m k).note (bestRun m k).best (bestRun m k).nl) :=
 zAx m.vars m.cons m.goal m.var [] (k : Int) [] [] [] [] true fun ok ok2 => by
  rw [zzx]
  suffices H : ∀ (n k : Nat) (g l : List (List LitD)) (p : NoteS) (b : List Int) (nl : Bool), Fit m g l k p → GivR m g b nl → k + 1 ≤ n → ∀ r, r = bestF m n k g l p b nl →
    zFg (fun d h1 => d = dI r.verdict ∧ h1 = hpB m r.given r.learned (r.fuel : Int) r.note r.best r.nl) n b nl m.vars m.cons m.goal m.var g (k : Int) p.2 l p.1 from ⟨_, H (k + 1) k [] [] ([], []) [] true h .none (Nat.le_refl _) _ rfl⟩
  intro n
  induction n with
  | zero => exact fun k g l p b nl _ _ hk => absurd hk (by omega)
  | succ n ih =>
   intro k g l p b nl h hg hk r hr
   rw [zyx]
   rw [bestF] at hr
   have hmr := h.sea.mc.right
   have hx := zwg k l p h.sea h.fuel
   have hfit := goS_fit k l p h
   refine ⟨_, _, _, _, _, _, zMx h, ?_⟩
   generalize goS m k g l p = q at hr hx hfit ⊢
   cases hx with
   | unknown q1 q2 =>
    rw [if_pos (.inl q1)] at hr
    rw [q1, hr]; exact ⟨by rw [q1], rfl⟩
   | none q1 q2 q3 =>
    rw [if_pos (.inr q1)] at hr
    rw [q1, hr]; exact ⟨by rw [q1], rfl⟩
   | found q1 q2 q3 q4 =>
    rw [if_neg (by rw [q1]; decide)] at hr
    obtain ⟨hf, hlt⟩ := hfit q1
    have hpos := h.sea.mc.pos
    rw [q1]
    refine ⟨fun e => ?_, za (fun e => ?_) fun e => ?_⟩
    ·have := q2.len; rw [e] at this; simp at this; omega
    ·rw [if_pos (of_decide_eq_true e)] at hr
     rw [hr, q1]; exact ⟨rfl, rfl⟩
    ·have h0 : m.goal ≠ 0 := of_decide_eq_false e
     rw [if_neg h0] at hr
     obtain ⟨e1, e2⟩ := zli hmr h0 hg q2
     have hc : ∀ c ∈ [thanC m q.vals], clauseE m.vars.length c = 0 := fun c hc => by rw [List.mem_singleton.1 hc]; exact than_ok hmr h0 q2.full
     exact call1 (t := .list .lit) (zti hmr q2.len (zPx hmr q2.full)) (ih q.fuel _ _ _ _ _ ⟨q3.give hc (Nat.le_refl _) e1, q4, hf.steps, hf.met⟩ (.some _ (zyg q2) h0) (by omega) r hr)
noncomputable def bestA (m : MdlD) (fuel : Int) : AnsD := if readyS m fuel = 0 then bestS m fuel.toNat else ⟨0, [], []⟩
theorem zgn (m : MdlD) (fuel : Int) : Sat Tryz.prog zSc [dM m, dI fuel] (.tup [toD .ans (bestA m fuel), dI (readyS m fuel)]) :=
 zvx m fuel fun ok => by
  rw [zux, bestA]
  refine call1 (zNx m fuel) (za (fun e => ?_) fun e => ?_)
  ·rw [if_neg (zV e)]; rfl
  ·have e := zN e
   obtain ⟨h1, h2, h3⟩ := zfn e
   obtain ⟨k, rfl⟩ : ∃ k : Nat, fuel = (k : Int) := ⟨fuel.toNat, by omega⟩
   rw [if_pos e, Int.toNat_natCast, e, bestS]
   have hrun := zQx (zOx h1 (k := k) (by omega))
   refine ⟨m, _, zGx m k, _, _, _, _, _, _, _, _, hrun, ?_⟩
   generalize bestRun m k = r
   have tail : ¬(m.goal = 0 ∧ r.verdict = 1) → ∃ p12 : List StepD, ∃ p13 : Bool, SatH Tryz.prog zfc [.ptr 1000 0] (hpS m r.given r.learned (r.fuel : Int) r.note) (.tup [.sl .step p12, dB p13]) [(1000, .cells [.sl .var m.vars, .sl .con m.cons, dI m.goal, dI m.var, .sl (.list .lit) r.given, dI (r.fuel : Int), .own 2000, .sl .step p12, .own 1001]), (2000, .row 47 (.list .lit) r.learned), (1001, .mp .str .int r.note.2)] ∧
     sel (decide (r.verdict = 3)) (D.tup [.agg [dI 3, .sl .int ([] : List Int), .sl .step ([] : List StepD)], dI 0] = .tup [toD .ans (if m.goal = 0 ∧ r.verdict = 1 then ⟨1, r.best, []⟩ else if r.verdict = 3 ∨ 6000 < r.note.1.length then ⟨3, [], []⟩ else if r.nl = true then ⟨2, [], r.note.1⟩ else ⟨1, r.best, r.note.1⟩), dI 0])
      (sel (!p13) (D.tup [.agg [dI 3, .sl .int ([] : List Int), .sl .step ([] : List StepD)], dI 0] = .tup [toD .ans (if m.goal = 0 ∧ r.verdict = 1 then ⟨1, r.best, []⟩ else if r.verdict = 3 ∨ 6000 < r.note.1.length then ⟨3, [], []⟩ else if r.nl = true then ⟨2, [], r.note.1⟩ else ⟨1, r.best, r.note.1⟩), dI 0])
       (sel r.nl (D.tup [.agg [dI 2, .sl .int ([] : List Int), .sl .step p12], dI 0] = .tup [toD .ans (if m.goal = 0 ∧ r.verdict = 1 then ⟨1, r.best, []⟩ else if r.verdict = 3 ∨ 6000 < r.note.1.length then ⟨3, [], []⟩ else if r.nl = true then ⟨2, [], r.note.1⟩ else ⟨1, r.best, r.note.1⟩), dI 0])
        (D.tup [.agg [dI 1, .sl .int r.best, .sl .step p12], dI 0] = .tup [toD .ans (if m.goal = 0 ∧ r.verdict = 1 then ⟨1, r.best, []⟩ else if r.verdict = 3 ∨ 6000 < r.note.1.length then ⟨3, [], []⟩ else if r.nl = true then ⟨2, [], r.note.1⟩ else ⟨1, r.best, r.note.1⟩), dI 0]))) := fun hn => by
    refine ⟨_, _, zFx (p := r.note), ?_⟩
    rw [if_neg hn]
    refine za (fun f => ?_) fun f => za (fun q => ?_) fun q => za (fun b => ?_) fun b => ?_
    ·rw [if_pos (.inl (of_decide_eq_true f))]; rfl
    ·have q : ¬(r.note.1.length : Int) ≤ 6000 := by simpa using q
     rw [if_pos (.inr (by omega))]; rfl
    ·have f := of_decide_eq_false f
     have q : (r.note.1.length : Int) ≤ 6000 := by simpa using q
     rw [if_neg (by omega), if_pos b]; rfl
    ·have f := of_decide_eq_false f
     have q : (r.note.1.length : Int) ≤ 6000 := by simpa using q
     rw [if_neg (by omega), if_neg (by rw [b]; decide)]; rfl
   refine za (fun f => za (fun q => ?_) fun q => ?_) fun f => ?_
   ·have f : m.goal = 0 := of_decide_eq_true f
    have q : r.verdict = 1 := of_decide_eq_true q
    rw [if_pos ⟨f, q⟩, q]; rfl
   ·exact tail fun h => (of_decide_eq_false q) h.2
   ·exact tail fun h => (of_decide_eq_false f) h.1
def betterE (m : MdlD) (vs : List Int) : Int := or0 (checkM m) (if vs.length ≠ m.vars.length then 1 else if m.goal ≠ 0 ∧ (vs.getD m.var.toNat 0 < (m.vars.getD m.var.toNat Ty.var.dflt).lo ∨ (m.vars.getD m.var.toNat Ty.var.dflt).hi < vs.getD m.var.toNat 0) then 3 else 0)
def betterC (m : MdlD) (vs : List Int) : List LitD := if betterE m vs = 0 then thanC m vs else []
theorem zRx (m : MdlD) (vs : List Int) : Sat Tryz.prog zRc [dM m, .sl .int vs] (.tup [.sl .lit (betterC m vs), dI (betterE m vs)]) :=
 ztx m vs fun ok => by
  rw [zsx, betterC]
  refine call1 (zbd m) (za (fun e => ?_) fun e => ?_)
  ·have e := zV e
   have h : betterE m vs = checkM m := or0_ne e
   rw [h, if_neg e]
  ·have e := zN e
   have hr := zlb e
   have h : betterE m vs = _ := or0_eq e
   refine za (fun f => ?_) fun f => ?_
   ·have f : ¬(vs.length : Int) = (m.vars.length : Int) := by simpa using f
    have h : betterE m vs = 1 := h.trans (if_pos (by omega))
    rw [h, if_neg (by decide)]
   ·have f : (vs.length : Int) = (m.vars.length : Int) := by simpa using f
    have f : vs.length = m.vars.length := by omega
    rw [if_neg (not_not_intro f)] at h
    refine za (fun g => ?_) fun g => ?_
    ·have g0 : m.goal ≠ 0 := zV g
     obtain ⟨_, g2, g3⟩ := goal_of hr g0
     have i1 : inb m.var vs.length = true := inb_iff.2 ⟨g2, by omega⟩
     have i2 : inb m.var m.vars.length = true := inb_iff.2 ⟨g2, g3⟩
     refine ⟨i1, i2, za (fun q => ?_) fun q => ⟨i1, i2, za (fun q' => ?_) fun q' => ?_⟩⟩
     ·rw [if_pos ⟨g0, .inl (of_decide_eq_true q)⟩] at h
      rw [h, if_neg (by decide)]
     ·rw [if_pos ⟨g0, .inr (of_decide_eq_true q')⟩] at h
      rw [h, if_neg (by decide)]
     ·have q := of_decide_eq_false q
      have q' := of_decide_eq_false q'
      rw [if_neg fun x => x.2.elim q q'] at h
      rw [h, if_pos rfl]
      refine call1 (t := .list .lit) (zti hr f fun _ => ?_) rfl
      have hvl : m.var.toNat < m.vars.length := by omega
      have hb := hr.var _ (List.getElem_mem hvl)
      have e1 : at' .var m.vars m.var.toNat = m.vars[m.var.toNat] := atN hvl
      have q2 : ¬(vs.getD m.var.toNat 0 : Int) < m.vars[m.var.toNat].lo := fun x => q (by rw [e1]; exact x)
      have q3 : ¬(m.vars[m.var.toNat].hi : Int) < vs.getD m.var.toNat 0 := fun x => q' (by rw [e1]; exact x)
      omega
    ·have g0 := zN g
     rw [if_neg fun x => x.1 g0] at h
     rw [h, if_pos rfl]
     exact call1 (t := .list .lit) (zti hr f fun x => absurd g0 x) rfl
end Go.Proofs.YtajnbkhgnppckaaGreatDoor
/- The laws of the best. -/
namespace Go.Proofs.YtajnbkhgnppckaaGreatDoor
open Go.RowKit
set_option linter.unusedVariables false
set_option linter.unusedSimpArgs false
theorem zSx : runS twoM true [] (fullS twoM) = [[0, 1], [1, 2]] := runS_B (cons := true) two_mc zc 1 (by kernel_rfl) (by kernel_rfl) (by kernel_rfl)
theorem zTx : runS twoM true [] (keep1 [[0, 1], [1, 2]] 0 0) = [[0], [1, 2]] := runS_B (cons := true) two_mc (by kernel_rfl) 1 (by kernel_rfl) (by kernel_rfl) (by kernel_rfl)
theorem zUx : runS twoM true [] (keep1 [[0], [1, 2]] 1 1) = [[0], [1]] := runS_B (cons := true) two_mc (by kernel_rfl) 1 (by kernel_rfl) (by kernel_rfl) (by kernel_rfl)
theorem zVx : downS twoM ([] ++ []) = ([], true, [0, 1]) := by
 show downF twoM [] 3 (runS twoM true [] (fullS twoM)) [] = _
 rw [zSx, downF, if_neg (by decide), if_neg (by decide)]
 show downF twoM [] 2 (runS twoM true [] (keep1 [[0, 1], [1, 2]] 0 0)) _ = _
 rw [zTx, downF, if_neg (by decide), if_neg (by decide)]
 show downF twoM [] 1 (runS twoM true [] (keep1 [[0], [1, 2]] 1 1)) _ = _
 rw [zUx, downF, if_neg (by decide), if_pos (by decide)]
 rfl
theorem two_go {k : Nat} : goS twoM (k + 1) [] [] ([], []) = ⟨[0, 1], 1, k, [], ([], [])⟩ := by
 rw [goS, zVx, if_pos rfl]
theorem two_mcb : RightMC twoM ([[⟨1, 1, 0⟩]] ++ []) := zob (by kernel_rfl) fun c hc => by rw [List.mem_singleton.1 hc]; kernel_rfl
theorem zui : failS (runS twoM true ([[⟨1, 1, 0⟩]] ++ []) (fullS twoM)) = true := by
 rw [runS_B0 (cons := true) two_mcb zc 2 (by kernel_rfl)]
 exact zmb (by rw [zc]; exact two_mcb.pos)
theorem zhn : downS twoM ([[⟨1, 1, 0⟩]] ++ []) = ([], false, []) := by
 rw [downS, downF, if_pos zui]
theorem zWx : (bestRun twoM 20).verdict = 2 ∧ (bestRun twoM 20).best = [0, 1] ∧ (bestRun twoM 20).nl = false ∧ (bestRun twoM 20).note.1.length ≤ 6000 := by
 have hf : fewD twoM ([[⟨1, 1, 0⟩]] ++ []) = [] := by
  rw [fewD, zhn]; exact zXm two_mcb zui
 have hk : LearnOk twoM ([[⟨1, 1, 0⟩]] ++ []) [] := ⟨by kernel_rfl, by decide, fun c hc => (by rw [List.mem_singleton.1 hc]; kernel_rfl), by decide, fun x hx => (by cases hx), fun x hx => (by cases hx)⟩
 have ht := zhi hk zui
 have hgo : goS twoM 19 [[⟨1, 1, 0⟩]] [] ([], []) = ⟨[], 2, 18, [], roundN twoM ([[⟨1, 1, 0⟩]] ++ []) ([], [])⟩ := by
  rw [goS, if_neg (by rw [zhn]; decide), if_pos hf]
 have hlen : (roundN twoM ([[⟨1, 1, 0⟩]] ++ []) ([], [])).1.length ≤ 6000 := by
  have h1 := (zri (traceS twoM ([[⟨1, 1, 0⟩]] ++ []) (fewD twoM ([[⟨1, 1, 0⟩]] ++ []))) ([], [])).1
  rw [hf] at h1
  have h2 := ht.len
  show (noteS _ _).1.length ≤ _
  rw [hf]
  have : (([], []) : NoteS).1.length = 0 := rfl
  omega
 have e : bestRun twoM 20 = ⟨2, [0, 1], false, [[⟨1, 1, 0⟩]], 18, [], roundN twoM ([[⟨1, 1, 0⟩]] ++ []) ([], [])⟩ := by
  show bestF twoM 21 20 [] [] ([], []) [] true = _
  rw [bestF, two_go, if_neg (by decide), if_neg (by decide)]
  show bestF twoM 20 19 [[⟨1, 1, 0⟩]] [] ([], []) [0, 1] false = _
  rw [bestF, hgo, if_pos (.inr rfl)]
 rw [e]
 exact ⟨rfl, rfl, rfl, hlen⟩
theorem two_ans : (bestA twoM 20).verdict = 1 ∧ (bestA twoM 20).values = [0, 1] ∧ 0 < (bestA twoM 20).proof.length := by
 obtain ⟨h1, h2, h3, h4⟩ := zWx
 have e : bestA twoM 20 = ⟨1, [0, 1], (bestRun twoM 20).note.1⟩ := by
  rw [bestA, if_pos (by kernel_rfl)]
  show bestS twoM 20 = _
  rw [bestS, if_neg (by rintro ⟨h, _⟩; exact absurd h (by decide)), if_neg (by rw [h1]; rintro (h | h); exact absurd h (by decide); omega), if_neg (by rw [h3]; decide), h2]
 have hs := z3m (m := twoM) (fuel := 20) (by kernel_rfl) (by decide)
 have e2 : bestA twoM 20 = bestS twoM 20 := by rw [bestA, if_pos (by kernel_rfl)]; rfl
 rw [← e2, e] at hs
 rw [e]
 refine ⟨rfl, rfl, ?_⟩
 cases hs with
 | any q0 => exact absurd q0 (by decide)
 | none q1 => exact absurd q1 (by decide)
 | unknown q1 => exact absurd q1 (by decide)
 | best q0 q1 q2 q3 q4 =>
  have := q3.right
  rw [proofB, Bool.and_eq_true, lastEmpty, Bool.and_eq_true] at this
  exact of_decide_eq_true this.2.1
theorem zXx : Sat Tryz.prog zRc [dM twoM, .sl .int [0, 2]] (.tup [.sl .lit [⟨1, 1, 1⟩], dI 0]) := by
 have h := zRx twoM [0, 2]
 rwa [betterC, show betterE twoM [0, 2] = 0 by kernel_rfl, if_pos rfl, show thanC twoM [0, 2] = [⟨1, 1, 1⟩] by kernel_rfl] at h
theorem zYx : Sat Tryz.prog z7d [] (dB true) :=
 zLs fun ok => by
  rw [zKs]
  obtain ⟨h1, h2, h3⟩ := two_ans
  refine call1 (t := .mdl) zsc (call2 (t := .list .lit) (u := .int) zXx (call1 (t := .mdl) zsc (call2 (t := .ans) (u := .int) (zgn twoM 20) ?_)))
  refine dt rfl (dt (show readyS twoM 20 = 0 by kernel_rfl) (call1 (t := .bool) (zEw _ _) (dt rfl (dt h1 (call1 (t := .bool) (ztk _ _) (dt h2 ?_))))))
  rw [decide_eq_true (by omega)]
theorem zin {m : MdlD} {g : List (List LitD)} {t : List StepD} (hg : ∀ c ∈ g, clauseE m.vars.length c = 0) (hgl : g.length ≤ 1) (h : ProofR m g t) (hl : t.length ≤ 6000) : stepsE m g t = 0 := by
 have e1 : firstE (fun _ (s : StepD) => clauseE m.vars.length s.clause) 0 t = 0 := zEc fun _ x hx => h.cl x hx
 have e2 : firstE (fun _ (s : StepD) => stepConF m s) 0 t = 0 := zEc fun _ x hx => by
  rw [stepConF, if_neg]
  rintro ⟨h1, h2⟩
  have := h.con x hx h1
  omega
 have e3 : rightsE m.vars.length g = 0 := by
  rw [rightsE, if_neg (by omega)]
  exact zEc fun _ x hx => hg x hx
 rw [stepsE, if_neg (by omega), e3, e1, e2]; rfl
theorem bestA_1 {m : MdlD} {fuel : Int} (h : readyS m fuel = 0) : checkM m = 0 ∧ ∃ k : Nat, fuel = k ∧ BestA m k (bestA m fuel) := by
 obtain ⟨h1, h2, h3⟩ := zfn h
 obtain ⟨k, rfl⟩ : ∃ k : Nat, fuel = (k : Int) := ⟨fuel.toNat, by omega⟩
 refine ⟨h1, k, rfl, ?_⟩
 rw [bestA, if_pos h, Int.toNat_natCast]
 exact z3m h1 (by omega)
theorem zZx (m : MdlD) (fuel : Int) (vs : List Int) : Sat Tryz.prog zpj [dM m, dI fuel, .sl .int vs] (dB true) :=
 zJs m fuel vs fun ok => by
  rw [zIs]
  refine call1 (t := .bool) zYx (bnf rfl (call1 (t := .bool) zIu (bnf rfl (call2 (t := .ans) (u := .int) (zgn m fuel) (call2 (t := .bool) (u := .int) (z1k m vs) ?_)))))
  by_cases e : readyS m fuel = 0
  ·refine dnf e ?_
   by_cases a : allE m vs = 0
   ·refine dnf a ?_
    rw [orB0 a]
    refine za (fun _ => rfl) fun w => ?_
    have w : wholeM m vs = true := by simpa using w
    obtain ⟨hm, k, hk, hx⟩ := bestA_1 e
    have hr := zlb hm
    have hl := (zDv a).2
    generalize bestA m fuel = b at hx
    cases hx with
    | unknown q1 => exact dt q1 rfl
    | none q1 q2 q3 q4 =>
     have hst := zin (g := []) (fun c hc => (by cases hc)) (by decide) q3 q4
     have := z9l (z7l hm hst) hl w fun c hc => by cases hc
     rw [q3.right] at this; cases this
    | any q0 q1 q2 q3 =>
     refine df (by rw [q1]; decide) (df (by rw [q1]; decide) (dnf (by rw [q2.len, hl]) (df (by rw [q0]; decide) (df (by rw [q0]; decide) rfl))))
    | best q0 q1 q2 q3 q4 =>
     have hc : ∀ c ∈ [thanC m b.values], clauseE m.vars.length c = 0 := fun c hc => by rw [List.mem_singleton.1 hc]; exact than_ok hr q0 q2.full
     have hst := zin hc (Nat.le_refl _) q3 q4
     have hno : holdsC (thanC m b.values) vs = false := by
      cases h : holdsC (thanC m b.values) vs
      ·rfl
      ·have := z9l (z7l hm hst) hl w fun c hc => by rw [List.mem_singleton.1 hc]; exact h
       rw [q3.right] at this; cases this
     have hno : ¬((m.goal = 1 ∧ vs.getD m.var.toNat 0 < b.values.getD m.var.toNat 0) ∨ (m.goal = 2 ∧ b.values.getD m.var.toNat 0 < vs.getD m.var.toNat 0)) := fun x => by
      rw [(zxg hr q0).2 x] at hno; cases hno
     obtain ⟨g1, g2, g3⟩ := goal_of hr q0
     have i1 : inb m.var b.values.length = true := inb_iff.2 ⟨g2, by rw [q2.len]; exact g3⟩
     have i2 : inb m.var vs.length = true := inb_iff.2 ⟨g2, by rw [hl]; exact g3⟩
     refine df (by rw [q1]; decide) (df (by rw [q1]; decide) (dnf (by rw [q2.len, hl]) (za (fun f => ⟨i1, i2, ?_⟩) fun f => za (fun f' => ⟨i1, i2, ?_⟩) fun f' => rfl)))
     ·have f := of_decide_eq_true f
      have h : (b.values.getD m.var.toNat 0 : Int) ≤ vs.getD m.var.toNat 0 := by omega
      show dB (decide ((b.values.getD m.var.toNat 0 : Int) ≤ vs.getD m.var.toNat 0)) = _
      rw [decide_eq_true h]
     ·have f' := of_decide_eq_true f'
      have h : (vs.getD m.var.toNat 0 : Int) ≤ b.values.getD m.var.toNat 0 := by omega
      show dB (decide ((vs.getD m.var.toNat 0 : Int) ≤ b.values.getD m.var.toNat 0)) = _
      rw [decide_eq_true h]
   ·exact dnt a rfl
  ·exact dnt e rfl
end Go.Proofs.YtajnbkhgnppckaaGreatDoor
