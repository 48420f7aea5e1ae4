/- Texts of this proof, one behind the other: nothing is handed in but what is proved here; no condition. -/
import Derived.Test.YtajnbkhgnppckaaGreatDoorMH
import Derived.Test.YtajnbkhgnppckaaGreatDoorWProof
/- What the program's calls of proofs answer, and the document's. -/
namespace Go.Proofs.YtajnbkhgnppckaaGreatDoor
open Go.RowKit
set_option linter.unusedVariables false
set_option linter.unusedSimpArgs false
noncomputable def byCon (m : MdlD) (con : Int) (c : List LitD) : Bool := failS (filterS (conAt m con) (denyC (fullS m) c))
noncomputable def byUnit (m : MdlD) (l : List (List LitD)) (c : List LitD) : Bool := failS (runS m false l (denyC (fullS m) c))
noncomputable def stepB (m : MdlD) (all : List (List LitD)) (st : StepD) : Bool := if st.kind = 1 then byCon m st.con st.clause else if st.kind = 2 then decide (st.con = 0) && byUnit m all st.clause else false
noncomputable def rightS (m : MdlD) : List (List LitD) → List StepD → Bool
 | _, [] => true
 | all, st :: l => stepB m all st && rightS m (all ++ [st.clause]) l
def lastEmpty (l : List StepD) : Bool := decide (0 < l.length) && decide (((l.getD (l.length - 1) ⟨0, 0, []⟩).clause).length = 0)
noncomputable def proofB (m : MdlD) (given : List (List LitD)) (l : List StepD) : Bool := rightS m given l && lastEmpty l
theorem zd {m : MdlD} : (fullS m).length = m.vars.length := List.length_map ..
theorem zwd {m : MdlD} {v : Nat} (hv : v < m.vars.length) : (fullS m).getD v [] = fullV m.vars[v] := by
 rw [getD_at _ (by rw [zd]; exact hv)]; simp [fullS]
theorem zbk {v : VarD} {n : Int} : n ∈ fullV v ↔ v.lo ≤ n ∧ n ≤ v.hi := by rw [fullV, upL_mem]; omega
theorem zxd {m : MdlD} : storeE m (fullS m) = 0 := by
 refine zTh.2 ⟨zd, fun v n hn => ?_, fun l hl => ?_⟩
 ·by_cases hv : v < m.vars.length
  ·rw [zwd hv, zbk] at hn
   rw [getD_at _ hv]; exact hn
  ·rw [zj (by rw [zd]; omega)] at hn; cases hn
 ·obtain ⟨v, hv, rfl⟩ := List.mem_map.1 hl
  exact zFj
theorem deny_le {s : List (List Int)} {c : List LitD} : leS (denyC s c) s := zKb
theorem zck {m : MdlD} {c : List LitD} : storeE m (denyC (fullS m) c) = 0 := ztd zxd deny_le
theorem z5o {m : MdlD} (h : Right m) {c : List LitD} : GoodS (denyC (fullS m) c) m.vars.length := ztb h zck
theorem full_ok {m : MdlD} (hr : Right m) : Sat Tryz.prog zZb [dM m] (dS (fullS m)) := zMw hr.lohi hr.vars
theorem zMz {m : MdlD} {con : Int} {c : List LitD} (h : atE m con = 0) : Sat Tryz.prog zmg [dM m, dI con, .sl .lit c] (dB (byCon m con c)) :=
 zLz m con c fun ok => by
  obtain ⟨hr, hc⟩ := zx h
  have hg := z5o hr (c := c)
  have hl := hg.len
  rw [zKz]
  refine call1 (full_ok hr) (call1 (zBx _ _) ⟨inb_iff.2 hc, call1 (zLe (c := conAt m con) (by rw [hl]; exact zcb h) (by rw [hl]; exact hg)) (call1 (zv _) rfl)⟩)
theorem zdk {a b : Int} (h : or0 a b = 0) : a = 0 ∧ b = 0 := by
 by_cases e : a = 0
 ·rw [or0_eq e] at h; exact ⟨e, h⟩
 ·rw [or0_ne e] at h; exact absurd h e
theorem zNz {m : MdlD} {con : Int} {c : List LitD} (h : atE m con = 0) (hc : clauseE m.vars.length c = 0) : Sat Tryz.prog zAf [dM m, dI con, .sl .lit c] (dB (byCon m con c)) :=
 z9u m con c fun ok => by
  obtain ⟨hr, _⟩ := zx h
  obtain ⟨q1, q2⟩ := zld hc
  rw [z8u]
  exact call1 (z9m hr.lohi hr.vars) (call1 (zTn q2 zd hr.vars q1) (call1 (zSo h zck) (call1 (zjb _) rfl)))
theorem zOz {m : MdlD} {l : List (List LitD)} {c : List LitD} (h : checkM m = 0) (hl : l.length ≤ 1000000) (hc : ∀ c ∈ l, clauseE m.vars.length c = 0) : FixOk m (denyC (fullS m) c) l := ⟨h, zck, hl, hc, zvd h hc, z5o (zY h)⟩
theorem zPz {m : MdlD} {l : List (List LitD)} {c : List LitD} (h : checkM m = 0) (hl : l.length ≤ 1000000) (hc : ∀ c ∈ l, clauseE m.vars.length c = 0) (hcc : clauseE m.vars.length c = 0) : Sat Tryz.prog zVd [dM m, .sl (.list .lit) l, .sl .lit c] (dB (byUnit m l c)) :=
 zbv m l c fun ok => by
  have hr := zY h
  obtain ⟨q1, q2⟩ := zld hcc
  rw [zav]
  exact call1 (z9m hr.lohi hr.vars) (call1 (zTn q2 zd hr.vars q1) (call1 (zHz false (zOz h hl hc)) (call1 (zjb _) rfl)))
structure StepsOk (m : MdlD) (given : List (List LitD)) (l : List StepD) : Prop where
 chk : checkM m = 0
 glen : given.length ≤ 600
 slen : l.length ≤ 6000
 gcl : ∀ c ∈ given, clauseE m.vars.length c = 0
 scl : ∀ s ∈ l, clauseE m.vars.length s.clause = 0
 con : ∀ s ∈ l, s.kind = 1 → 0 ≤ s.con ∧ s.con < (m.cons.length : Int)
def stepConF (m : MdlD) (s : StepD) : Int := if s.kind = 1 ∧ (s.con < 0 ∨ (m.cons.length : Int) ≤ s.con) then 5 else 0
def stepsE (m : MdlD) (given : List (List LitD)) (l : List StepD) : Int :=
 if 600 < given.length ∨ 6000 < l.length then 2 else or0 (rightsE m.vars.length given) (or0 (firstE (fun _ s => clauseE m.vars.length s.clause) 0 l) (firstE (fun _ s => stepConF m s) 0 l))
theorem zQz {m : MdlD} {given : List (List LitD)} {l : List StepD} (h : checkM m = 0) (h2 : stepsE m given l = 0) : StepsOk m given l := by
 unfold stepsE at h2
 split at h2
 ·exact absurd h2 (by decide)
 rename_i h3
 obtain ⟨h4, h5⟩ := zdk h2
 obtain ⟨h6, h7⟩ := zdk h5
 obtain ⟨h8, h9⟩ := zEz h4
 refine ⟨h, h8, by omega, h9, fun s hs => ?_, fun s hs hk => ?_⟩
 ·obtain ⟨i, hi, rfl⟩ := List.getElem_of_mem hs
  exact zEc h6 hi
 ·obtain ⟨i, hi, rfl⟩ := List.getElem_of_mem hs
  have := zEc h7 hi
  simp only [stepConF, hk, true_and] at this
  split at this
  ·exact absurd this (by decide)
  ·omega
theorem last_at {l : List StepD} (h : 0 < l.length) : at' .step l ((w64 ((l.length : Int) - 1)).toNat) = l.getD (l.length - 1) ⟨0, 0, []⟩ ∧ inb (w64 ((l.length : Int) - 1)) l.length = true ∨ 9223372036854775807 < l.length := by
 by_cases hb : l.length ≤ 9223372036854775807
 ·rw [w64_eq (by omega) (by omega), show ((l.length : Int) - 1).toNat = l.length - 1 by omega]
  exact .inl ⟨rfl, inb_iff.2 (by omega)⟩
 ·exact .inr (by omega)
theorem zRz {m : MdlD} (h : checkM m = 0) (given : List (List LitD)) (l : List StepD) : Sat Tryz.prog zVb [dM m, .sl (.list .lit) given, .sl .step l] (dI (stepsE m given l)) :=
 zvu m given l fun ok => by
  have hr := zY h
  have hcl := hr.cons
  rw [zuu]
  refine za (fun f => ?_) fun f => za (fun g => ?_) fun g => ?_
  ·exact dI_of (if_pos (.inl (by simp at f; omega)))
  ·exact dI_of (if_pos (.inr (by simp at g; omega)))
  have f : ¬600 < given.length := by simp at f; omega
  have g : ¬6000 < l.length := by simp at g; omega
  rw [stepsE, if_neg (by omega)]
  refine call1 (zGz h given) (za (fun e => ?_) fun e => ?_)
  ·exact dI_of (or0_ne (zE e))
  rw [or0_eq (zr e)]
  refine err1 (I := fun n v => zbh m l _ n v) l (fun _ s => clauseE m.vars.length s.clause) (by omega) (X := fun x => D.int .i64 x = dI (or0 (firstE (fun _ s => clauseE m.vars.length s.clause) 0 l) (firstE (fun _ s => stepConF m s) 0 l))) (fun e => by rw [or0_ne e]) (fun n k hk _ hX hn => ?_) fun h0 n => ?_
  ·rw [zym, sel_lt hk, at_nat (t := .step) hk]
   exact ⟨inb_nat hk, call1 (zPn h _) (za (fun e => hX (zE e)) fun e => hn (zr e))⟩
  ·rw [zym, sel_end, or0_eq h0]
   refine err0 (I := fun n v => zde m l _ n v) l (fun _ s => stepConF m s) (by omega) (X := fun x => D.int .i64 x = dI (firstE (fun _ s => stepConF m s) 0 l)) (Y := D.int .i64 0 = dI (firstE (fun _ s => stepConF m s) 0 l)) (fun _ => rfl) (fun e => dI_of e) (fun n k hk _ hX hn => ?_) fun n hY => ?_
   ·rw [zxm, sel_lt hk, at_nat (t := .step) hk]
    refine ⟨inb_nat hk, za (fun e => ⟨inb_nat hk, call1 (zab _ _ _) (za (fun f => ?_) fun f => ?_)⟩) fun e => ?_⟩
    ·have e := of_decide_eq_true e
     have f : inR l[k].con 0 (w64 ((m.cons.length : Int) - 1)) = false := by simpa using f
     rw [w64_eq (by omega) (by omega), zQ] at f
     rw [stepConF, if_pos ⟨e, by omega⟩] at hX; exact hX (by decide)
    ·have f : inR l[k].con 0 (w64 ((m.cons.length : Int) - 1)) = true := by simpa using f
     rw [w64_eq (by omega) (by omega), zQb] at f
     exact hn (if_neg fun x => by omega)
    ·exact hn (if_neg fun x => of_decide_eq_false e x.1)
   ·rw [zxm, sel_end]; exact hY
theorem zSz {m : MdlD} {given : List (List LitD)} {l : List StepD} (hk : StepsOk m given l) : Sat Tryz.prog zqf [dM m, .sl (.list .lit) given, .sl .step l] (dB (rightS m given l)) :=
 zYu m given l fun ok => by
  have hg := hk.glen
  have hsl := hk.slen
  rw [zXu]
  refine ⟨room_of (t := .list .lit) (by show (0 + _) * 24 ≤ _; omega), ?_⟩
  rw [List.nil_append]
  refine up (I := fun n v a => zCc m l _ n v a) 0 l.length rfl (Nat.zero_le _) (by omega) (fun k a => a.length = given.length + k ∧ (∀ c ∈ a, clauseE m.vars.length c = 0) ∧ rightS m given l = rightS m a (l.drop k)) ⟨rfl, hk.gcl, rfl⟩ fun n k a _ hk2 ha hn => ?_
  obtain ⟨h1, h2, h3⟩ := ha
  rw [zWu]
  by_cases h : k < l.length
  ·rw [sel_lt h, at_nat (t := .step) h]
   have hm := List.getElem_mem h
   have hcl := hk.scl _ hm
   have hcon := hk.con _ hm
   rw [List.drop_eq_getElem_cons h, rightS] at h3
   have hroom : room (.list .lit) (a.length + ([l[k].clause]).length) = true := room_of (t := .list .lit) (by show (_ + 1) * 24 ≤ _; omega)
   have hno : stepB m a l[k] = false → D.bool false = dB (rightS m given l) := fun f => by rw [h3, f]; rfl
   have hyes : stepB m a l[k] = true → room (.list .lit) (a.length + ([l[k].clause]).length) = true ∧ zCc m l (fun d => d = dB (rightS m given l)) n (w64 ((k : Int) + 1)) (a ++ [l[k].clause]) := fun f => by
    rw [f, Bool.true_and] at h3
    refine ⟨hroom, hn h _ ⟨?_, fun c hc => ?_, h3⟩⟩
    ·rw [List.length_append, h1]; rfl
    ·rcases List.mem_append.1 hc with hc | hc
     ·exact h2 c hc
     ·rw [List.mem_singleton.1 hc]; exact hcl
   generalize l[k] = st at *
   refine ⟨inb_nat h, za (fun e => ?_) fun e => ?_⟩
   ·have e := of_decide_eq_true e
    have hs : stepB m a st = byCon m st.con st.clause := if_pos e
    refine call1 (zNz (atE_of hk.chk (hcon e)) hcl) (za (fun f => hyes (by rw [hs]; exact f)) fun f => df (by omega) (hno (by rw [hs]; exact f)))
   ·have e := of_decide_eq_false e
    refine za (fun f => za (fun g => ?_) fun g => ?_) fun f => ?_
    ·have hs : stepB m a st = byUnit m a st.clause := by rw [stepB, if_neg e, if_pos (of_decide_eq_true f), g, Bool.true_and]
     exact call1 (zPz hk.chk (by omega) h2 hcl) (za (fun x => hno (by rw [hs]; simpa using x)) fun x => hyes (by rw [hs]; simpa using x))
    ·exact hno (by rw [stepB, if_neg e, if_pos (of_decide_eq_true f), g, Bool.false_and])
    ·exact hno (by rw [stepB, if_neg e, if_neg (of_decide_eq_false f)])
  ·have hk' : k = l.length := by omega
   subst hk'
   rw [List.drop_length] at h3
   rw [sel_end, h3]; rfl
theorem zTz {m : MdlD} {given : List (List LitD)} {l : List StepD} (hk : StepsOk m given l) : Sat Tryz.prog zWb [dM m, .sl (.list .lit) given, .sl .step l] (dB (proofB m given l)) :=
 zxu m given l fun ok => by
  have hsl := hk.slen
  rw [zwu]
  refine za (fun f => ?_) fun f => ?_
  ·have f : 0 < l.length := by simpa using f
   obtain ⟨q1, q2⟩ := (last_at f).resolve_right (by omega)
   refine ⟨q2, ?_⟩
   rw [q1]
   refine za (fun g => call1 (zSz hk) ?_) fun g => ?_
   ·have g : ((l.getD (l.length - 1) ⟨0, 0, []⟩).clause).length = 0 := by simpa using g
    rw [proofB, lastEmpty, decide_eq_true f, decide_eq_true g, Bool.true_and, Bool.and_true]
   ·have g : ¬((l.getD (l.length - 1) ⟨0, 0, []⟩).clause).length = 0 := by simpa using g
    rw [proofB, lastEmpty, decide_eq_false g, Bool.and_false, Bool.and_false]
  ·have f : ¬0 < l.length := by simpa using f
   rw [proofB, lastEmpty, decide_eq_false f, Bool.false_and, Bool.and_false]
end Go.Proofs.YtajnbkhgnppckaaGreatDoor
/- The laws of proofs. -/
namespace Go.Proofs.YtajnbkhgnppckaaGreatDoor
open Go.RowKit
set_option linter.unusedVariables false
set_option linter.unusedSimpArgs false
end Go.Proofs.YtajnbkhgnppckaaGreatDoor
