/- Texts of this proof, one behind the other: nothing is handed in but what is proved here; no condition. -/
import Derived.Test.YtajnbkhgnppckaaGreatDoorMG
import Derived.Test.YtajnbkhgnppckaaGreatDoorWFix
/- What is left when nothing changes any more: the program's runs. -/
namespace Go.Proofs.YtajnbkhgnppckaaGreatDoor
open Go.RowKit
set_option linter.unusedVariables false
set_option linter.unusedSimpArgs false
noncomputable def consOps (m : MdlD) : List Op := m.cons.map filterS
def unitOps (l : List (List LitD)) : List Op := l.map fun c s => unitC s c
noncomputable def opsOf (m : MdlD) (cons : Bool) (l : List (List LitD)) : List Op := (if cons = true then consOps m else []) ++ unitOps l
noncomputable def runS (m : MdlD) (cons : Bool) (l : List (List LitD)) (s : List (List Int)) : List (List Int) := fixS (opsOf m cons l) s
structure RightMC (m : MdlD) (l : List (List LitD)) : Prop where
 right : Right m
 cons : ∀ c ∈ m.cons, RightC c m.vars.length
 lits : ∀ c ∈ l, ∀ x ∈ c, 0 ≤ x.var ∧ x.var < (m.vars.length : Int)
theorem RightMC.pos {m : MdlD} {l : List (List LitD)} (h : RightMC m l) : 0 < m.vars.length := by have := h.right.some; omega
theorem zvl {m : MdlD} {l : List (List LitD)} (h : checkM m = 0) (hl : ∀ c ∈ l, ∀ x ∈ c, litE m.vars.length x = 0) : RightMC m l := by
 refine ⟨zSb h, fun c hc => ?_, fun c hc x hx => (zL.1 (hl c hc x hx)).1⟩
 obtain ⟨i, hi, rfl⟩ := List.getElem_of_mem hc
 have := zW (atE_of h (con := (i : Int)) (by omega))
 rwa [conAt, Int.toNat_natCast, getD_at _ hi] at this
theorem zyc {m : MdlD} {l : List (List LitD)} (h : RightMC m l) {c : ConD} (hc : c ∈ m.cons) : IsOp m.vars.length (filterS c) (trueC c) := zsc (h.cons c hc) h.pos
theorem zVb {m : MdlD} {l : List (List LitD)} (h : RightMC m l) {c : List LitD} (hc : c ∈ l) : IsOp m.vars.length (fun s => unitC s c) (holdsC c) := unit_op (h.lits c hc) h.pos
theorem mem_ops {m : MdlD} {cons : Bool} {l : List (List LitD)} {op : Op} : op ∈ opsOf m cons l ↔ (cons = true ∧ ∃ c ∈ m.cons, filterS c = op) ∨ ∃ c ∈ l, (fun s => unitC s c) = op := by
 rw [opsOf, List.mem_append, unitOps, List.mem_map]
 cases cons
 ·simp
 ·simp [consOps]
theorem ops_ok {m : MdlD} {cons : Bool} {l : List (List LitD)} (h : RightMC m l) : OpsOk m.vars.length (opsOf m cons l) := fun op hm => by
 rcases mem_ops.1 hm with ⟨_, c, hc, rfl⟩ | ⟨c, hc, rfl⟩
 ·exact ⟨_, zyc h hc⟩
 ·exact ⟨_, zVb h hc⟩
theorem zZ {m : MdlD} {cons : Bool} {l : List (List LitD)} (h : RightMC m l) {s : List (List Int)} (hs : s.length = m.vars.length) : FixR (opsOf m cons l) s (runS m cons l s) := z0s (ops_ok h) hs
theorem runS_eq {m : MdlD} {cons : Bool} {l : List (List LitD)} (h : RightMC m l) {s r : List (List Int)} (hs : s.length = m.vars.length) (hr : FixR (opsOf m cons l) s r) : runS m cons l s = r := fixS_eq (by have := h.pos; omega) hr
structure Round (ops : List Op) (was s : List (List Int)) (done : List Op) : Prop where
 le : leS s was
 stab : s = was → ∀ op ∈ done, op was = was
theorem Round.step {nv : Nat} {ops done : List Op} {was s : List (List Int)} (h : Round ops was s done) {op : Op} {Q : List Int → Bool} (ho : IsOp nv op Q) (hs : s.length = nv) : Round ops was (op s) (done ++ [op]) := by
 have hle := ho.le hs
 refine ⟨hle.trans h.le, fun e op' hm => ?_⟩
 have e2 : s = was := h.le.antisymm (by rw [← e]; exact hle)
 rcases List.mem_append.1 hm with hm | hm
 ·exact h.stab e2 op' hm
 ·rw [List.mem_singleton.1 hm]; rw [e2] at e; exact e
theorem zwl : ∀ {s t : List (List Int)}, s.length = t.length → ((s.zip t).any fun x => !decide (x.1.length = x.2.length)) = false → (∀ v : Nat, (s.getD v []).Sublist (t.getD v [])) → s = t
 | [], [], _, _, _ => rfl
 | a :: s, b :: t, hl, h, hs => by
  rw [List.zip_cons_cons, List.any_cons, Bool.or_eq_false_iff] at h
  have h1 : a.length = b.length := by simpa using h.1
  have h0 : a.Sublist b := hs 0
  rw [h0.eq_of_length h1, zwl (by simpa using hl) h.2 fun v => hs (v + 1)]
 | [], _ :: _, hl, _, _ => by simp at hl
 | _ :: _, [], hl, _, _ => by simp at hl
def sameS (s t : List (List Int)) : Bool := decide (s.length = t.length) && !((s.zip t).any fun x => !decide (x.1.length = x.2.length))
theorem zxl {s t : List (List Int)} (h : leS s t) : sameS s t = true ↔ s = t := by
 rw [sameS, Bool.and_eq_true, decide_eq_true_iff, Bool.not_eq_true']
 constructor
 ·rintro ⟨h1, h2⟩; exact zwl h1 h2 h.2
 ·rintro rfl
  refine ⟨rfl, List.any_eq_false.2 fun x hx => ?_⟩
  obtain ⟨i, hi, rfl⟩ := List.getElem_of_mem hx
  rw [List.getElem_zip]; simp
theorem zBu (a b : List Int) : Sat Tryz.prog zkc [.sl .int a, .sl .int b] (dB (decide (a.length = b.length))) :=
 zAu a b fun ok => by
  rw [zzu]
  show D.bool _ = D.bool _
  congr 1
  exact decide_eq_decide.2 ⟨fun e => by omega, fun e => by omega⟩
theorem zCu (s t : List (List Int)) : Sat Tryz.prog zV [dS s, dS t] (dB (sameS s t)) :=
 zyu s t fun ok => by
  rw [zxu]
  refine call1 (x := sameS s t) ?_ rfl
  refine Sat.clo (pre := [_, _]) (zkj s t zkc [] fun ok => ?_)
  have hs : okStore s := ok_list (ok1 ok)
  have hsl := zCf hs
  rw [zjj]
  refine za (fun e => ?_) fun e => ?_
  ·rw [sameS, decide_eq_false (by simp at e; omega)]; rfl
  have e : s.length = t.length := by simp at e; omega
  have hz : (s.zip t).length = s.length := by rw [List.length_zip]; omega
  refine any0 (I := fun n v => z8c s t zkc [] _ n v) (s.zip t) (fun x => !decide (x.1.length = x.2.length)) (by omega) (X := dB false = dB (sameS s t)) (Y := dB true = dB (sameS s t)) (by rw [sameS, decide_eq_true e]; cases (s.zip t).any fun x => !decide (x.1.length = x.2.length) <;> rfl) (fun n k h hX hn => ?_) fun n hY => ?_
  ·have hk : k < s.length := by omega
   rw [List.getElem_zip] at hX hn
   rw [z8e, sel_lt hk, at_nat (t := .list .int) hk, at_nat (t := .list .int) (show k < t.length by omega)]
   exact ⟨inb_nat hk, inb_nat (by omega), zEr, call1 (zBu _ _) (za hX hn)⟩
  ·rw [hz, z8e, sel_end]; exact hY
theorem zDu {nv : Nat} {ops : List Op} {s0 s : List (List Int)} (h : Reach ops s0 s) (hg : GoodS s0 nv) : GoodS s nv := by
 refine ⟨h.le.1.trans hg.len, fun v n hn => hg.near v n ((h.le.2 v).subset hn), fun l hl => ?_⟩
 obtain ⟨i, hi, rfl⟩ := List.getElem_of_mem hl
 have := h.le.2 i
 rw [getD_at _ hi, getD_at _ (show i < s0.length by rw [← h.le.1]; exact hi)] at this
 exact (hg.rise _ (List.getElem_mem _)).sublist this
theorem opsUp {nv : Nat} {ops pre : List Op} {s0 was : List (List Int)} (ho : OpsOk nv ops) (h0 : s0.length = nv) {A : Type} (xs : List A) (f : A → Op) (hf : ∀ x ∈ xs, f x ∈ ops)
  {I : Nat → Int → List (List Int) → Prop} {X : List (List Int) → Prop} {s : List (List Int)} (hl : xs.length ≤ 9223372036854775807) (hr : Reach ops s0 s) (hw : failS s = true ∨ Round ops was s pre)
  (hout : ∀ s, Reach ops s0 s → (failS s = true ∨ Round ops was s (pre ++ xs.map f)) → X s)
  (hin : ∀ n (k : Nat) (h : k < xs.length) s, Reach ops s0 s → failS s = false → I n (w64 ((k : Int) + 1)) (f xs[k] s) → I (n + 1) (k : Int) s)
  (hend : ∀ n s, X s → I (n + 1) (xs.length : Int) s) (hfail : ∀ n (k : Nat) s, k < xs.length → failS s = true → X s → I (n + 1) (k : Int) s) : ∃ n, I n 0 s := by
 refine up (I := I) 0 xs.length rfl (Nat.zero_le _) hl (fun k s => Reach ops s0 s ∧ (failS s = true ∨ Round ops was s (pre ++ (xs.take k).map f))) ⟨hr, by simpa using hw⟩ fun n k s _ hk ha hn => ?_
 obtain ⟨h1, h2⟩ := ha
 by_cases h : k < xs.length
 ·cases hfl : failS s with
  | true => exact hfail n k s h hfl (hout s h1 (.inl hfl))
  | false =>
   obtain ⟨Q, hq⟩ := ho _ (hf _ (List.getElem_mem h))
   have h2 := h2.resolve_left (by rw [hfl]; decide)
   refine hin n k h s h1 hfl (hn h _ ⟨h1.step ho h0 (hf _ (List.getElem_mem h)), .inr ?_⟩)
   rw [z3d _ h, ← List.append_assoc]
   exact h2.step hq (h1.le.1.trans h0)
 ·have hk' : k = xs.length := by omega
  subst hk'
  refine hend n s (hout s h1 ?_)
  rwa [List.take_length] at h2
def RunX (m : MdlD) (cons : Bool) (l : List (List LitD)) (s0 : List (List Int)) (n0 : Nat) (was s : List (List Int)) : Prop :=
 Call1 Tryz.prog ze [dS s] .bool fun s11 => sel s11
  (Call1 Tryz.prog zG [dS s] (.list (.list .int)) fun s12 => D.sl (.list .int) s12 = dS (runS m cons l s0))
  (Call1 Tryz.prog zV [dS s, dS was] .bool fun f13 => sel f13 (D.sl (.list .int) s = dS (runS m cons l s0)) (zE m cons l (fun d => d = dS (runS m cons l s0)) n0 s))
theorem runX_of {m : MdlD} {cons : Bool} {l : List (List LitD)} {s0 : List (List Int)} (h : RightMC m l) (hs : s0.length = m.vars.length) {n0 : Nat} {was : List (List Int)}
  (ih : ∀ s, Reach (opsOf m cons l) s0 s → sizeS s < sizeS was → zE m cons l (fun d => d = dS (runS m cons l s0)) n0 s) {s : List (List Int)} (hr : Reach (opsOf m cons l) s0 s) (hx : failS s = true ∨ Round (opsOf m cons l) was s (opsOf m cons l)) : RunX m cons l s0 n0 was s := by
 refine call1 (zo s) (za (fun e => ?_) fun e => ?_)
 ·have e : failS s = true := e
  refine call1 (zHf s) ?_
  rw [runS_eq h hs (hr.dead e), zrh hr.le.1]
 ·have e : failS s = false := e
  have hrd := hx.resolve_left (by rw [e]; decide)
  refine call1 (zCu s was) (za (fun f => ?_) fun f => ?_)
  ·have f2 := (zxl hrd.le).1 f
   rw [runS_eq h hs (hr.stop e fun op hm => ?_)]
   rw [f2]; exact hrd.stab f2 op hm
  ·exact ih s hr (hrd.le.size_lt fun f2 => by rw [(zxl hrd.le).2 f2] at f; cases f)
theorem runUnits {m : MdlD} {cons : Bool} {l : List (List LitD)} {s0 : List (List Int)} (h : RightMC m l) (hs : s0.length = m.vars.length) (hll : l.length ≤ 1000000000) {n0 : Nat} {was : List (List Int)}
  (ih : ∀ s, Reach (opsOf m cons l) s0 s → sizeS s < sizeS was → zE m cons l (fun d => d = dS (runS m cons l s0)) n0 s)
  {I : Nat → Int → List (List Int) → Prop}
  (heq : ∀ n (i : Int) s, I (n + 1) i s = sel (decide (i < (l.length : Int)))
   (Call1 Tryz.prog ze [dS s] .bool fun s9 => sel (!s9)
    (inb i l.length = true ∧ Call1 Tryz.prog zMb [dS s, .sl .lit (at' (.list .lit) l i.toNat)] (.list (.list .int)) fun c10 => I n (w64 (i + 1)) c10)
    (RunX m cons l s0 n0 was s))
   (RunX m cons l s0 n0 was s))
  {s : List (List Int)} (hr : Reach (opsOf m cons l) s0 s) (hw : failS s = true ∨ Round (opsOf m cons l) was s (if cons = true then consOps m else [])) : ∃ n, I n 0 s := by
 refine opsUp (ops_ok h) hs l (fun c s => unitC s c) (fun c hc => mem_ops.2 (.inr ⟨c, hc, rfl⟩)) (by omega) hr hw (X := RunX m cons l s0 n0 was) (fun s h1 h2 => runX_of h hs ih h1 h2) (fun n k hk s h1 hf hi => ?_) (fun n s hx => ?_) fun n k s hk hf hx => ?_
 ·rw [heq, sel_lt hk, at_nat (t := .list .lit) hk]
  refine call1 (zo s) (bnt hf ⟨inb_nat hk, call1 (zPs fun x hx => ?_) hi⟩)
  have := h.lits _ (List.getElem_mem hk) x hx
  rw [h1.le.1, hs]; exact this
 ·rw [heq, sel_end]; exact hx
 ·rw [heq, sel_lt hk]
  exact call1 (zo s) (bnf hf hx)
theorem zxd {m : MdlD} {cons : Bool} {l : List (List LitD)} {s0 : List (List Int)} (h : RightMC m l) (hs : GoodS s0 m.vars.length) (hll : l.length ≤ 1000000000) : Sat Tryz.prog zT [dM m, dS s0, dB cons, .sl (.list .lit) l] (dS (runS m cons l s0)) :=
 zwu m s0 cons l fun ok => by
  have ho := ops_ok (cons := cons) h
  have hcl := h.right.cons
  rw [zvu]
  refine call1 (zfd s0) ?_
  have step : ∀ (n0 : Nat) (was : List (List Int)), Reach (opsOf m cons l) s0 was → (∀ s, Reach (opsOf m cons l) s0 s → sizeS s < sizeS was → zE m cons l (fun d => d = dS (runS m cons l s0)) n0 s) → zE m cons l (fun d => d = dS (runS m cons l s0)) (n0 + 1) was := by
   intro n0 was hw ih
   rw [zuu]
   cases cons with
   | false =>
    refine ⟨1, ?_⟩
    rw [z0f]
    refine bf rfl ?_
    exact runUnits h hs.len hll ih (I := fun n i s => zZf m false l _ n0 was n s i) (fun n i s => by rw [ztu]; rfl) hw (.inr ⟨leS.refl _, fun _ op hm => (by cases hm)⟩)
   | true =>
    refine opsUp ho hs.len m.cons filterS (fun c hc => mem_ops.2 (.inl ⟨rfl, c, hc, rfl⟩)) (by omega) hw (was := was) (pre := []) (.inr ⟨leS.refl _, fun _ op hm => (by cases hm)⟩) (I := fun n i s => zUb m true l _ n0 was n s i)
     (X := fun s => (∃ n4, zvd m true l (fun d => d = dS (runS m true l s0)) n0 was n4 s 0) ∧ ∃ n4_2, zwd m true l (fun d => d = dS (runS m true l s0)) n0 was n4_2 s 0) (fun s h1 h2 => ?_) (fun n k hk s h1 hf hi => ?_) (fun n s hx => ?_) fun n k s hk hf hx => ?_
    ·exact ⟨runUnits h hs.len hll ih (I := fun n i s => zvd m true l _ n0 was n s i) (fun n i s => by rw [zru]; rfl) h1 h2, runUnits h hs.len hll ih (I := fun n i s => zwd m true l _ n0 was n s i) (fun n i s => by rw [zsu]; rfl) h1 h2⟩
    ·show zUb m true l _ n0 was (n + 1) s (k : Int)
     rw [z0f]
     refine bt rfl ?_
     rw [sel_lt hk, at_nat (t := .con) hk]
     have hg := zDu h1 hs
     have hl := hg.len
     refine call1 (zo s) (bnt hf ⟨inb_nat hk, call1 (ztd (c := m.cons[k]) (by rw [hl]; exact h.cons _ (List.getElem_mem hk)) (by rw [hl]; exact hg)) hi⟩)
    ·show zUb m true l _ n0 was (n + 1) s (m.cons.length : Int)
     rw [z0f]
     refine bt rfl ?_
     rw [sel_end]; exact hx.2
    ·show zUb m true l _ n0 was (n + 1) s (k : Int)
     rw [z0f]
     refine bt rfl ?_
     rw [sel_lt hk]
     exact call1 (zo s) (bnf hf hx.1)
  suffices H : ∀ (d : Nat) (was : List (List Int)), sizeS was ≤ d → Reach (opsOf m cons l) s0 was → zE m cons l (fun d => d = dS (runS m cons l s0)) (d + 1) was from ⟨_, H _ s0 (Nat.le_refl _) (Reach.refl _ _)⟩
  intro d
  induction d with
  | zero => exact fun was hd hw => step 0 was hw fun s _ hlt => absurd hlt (by omega)
  | succ d ih => exact fun was hd hw => step (d + 1) was hw fun s h1 hlt => ih s (by omega) h1
end Go.Proofs.YtajnbkhgnppckaaGreatDoor
/- What is left when nothing changes any more: the calls, and the document's answer. -/
namespace Go.Proofs.YtajnbkhgnppckaaGreatDoor
open Go.RowKit
set_option linter.unusedVariables false
set_option linter.unusedSimpArgs false
def rightsE (nv : Nat) (l : List (List LitD)) : Int := if 600 < l.length then 2 else firstE (fun _ c => clauseE nv c) 0 l
theorem zEu {nv : Nat} {l : List (List LitD)} (h : rightsE nv l = 0) : l.length ≤ 600 ∧ ∀ c ∈ l, clauseE nv c = 0 := by
 unfold rightsE at h
 split at h
 ·exact absurd h (by decide)
 rename_i h1
 refine ⟨by omega, fun l hl => ?_⟩
 obtain ⟨i, hi, rfl⟩ := List.getElem_of_mem hl
 exact zRb h hi
theorem zFu {nv : Nat} : rightsE nv [] = 0 := rfl
structure FixOk (m : MdlD) (s : List (List Int)) (l : List (List LitD)) : Prop where
 chk : checkM m = 0
 st : storeE m s = 0
 len : l.length ≤ 1000000
 cl : ∀ c ∈ l, clauseE m.vars.length c = 0
 mc : RightMC m l
 good : GoodS s m.vars.length
theorem zzc {m : MdlD} {l : List (List LitD)} (h : checkM m = 0) (hl : ∀ c ∈ l, clauseE m.vars.length c = 0) : RightMC m l := zvl h fun c hc x hx => (zgd (hl c hc)).2 x hx
theorem z1f {m : MdlD} (h : checkM m = 0) : RightMC m [] := zvl h fun c hc => by cases hc
theorem down {α : Type} {I : Nat → Int → α → Prop} (m : Nat) (hm : m ≤ 9223372036854775807) (Inv : Nat → α → Prop) {a : α} (h0 : Inv m a)
  (hs : ∀ n (k : Nat) a, k ≤ m → Inv k a → (∀ j : Nat, k = j + 1 → ∀ a', Inv j a' → I n (w64 ((j : Int) - 1)) a') → I (n + 1) ((k : Int) - 1) a) : ∃ n, I n (w64 ((m : Int) - 1)) a := by
 suffices H : ∀ k, k ≤ m → ∀ a, Inv k a → I (k + 1) ((k : Int) - 1) a from ⟨m + 1, by rw [w64_eq (by omega) (by omega)]; exact H m (Nat.le_refl _) a h0⟩
 intro k
 induction k with
 | zero => exact fun hk a ha => hs 0 0 a hk ha fun j e => absurd e (by omega)
 | succ k ih =>
  intro hk a ha
  refine hs (k + 1) (k + 1) a hk ha fun j e a' ha' => ?_
  obtain rfl : k = j := by omega
  rw [w64_eq (by omega) (by omega)]
  exact ih (by omega) a' ha'
structure DownR (ops : List Op) (s0 was : List (List Int)) (done : List Op) (s : List (List Int)) (ch : Bool) : Prop where
 reach : Reach ops s0 s
 st : failS s = true ∨ (ch = false ∧ s = was ∧ ∀ op ∈ done, op was = was) ∨ (ch = true ∧ sizeS s < sizeS was)
end Go.Proofs.YtajnbkhgnppckaaGreatDoor
/- The laws of all together. -/
namespace Go.Proofs.YtajnbkhgnppckaaGreatDoor
open Go.RowKit
set_option linter.unusedVariables false
set_option linter.unusedSimpArgs false
def opsB (m : MdlD) (cons : Bool) (l : List (List LitD)) : List Op := (if cons = true then m.cons.map filterB else []) ++ unitOps l
def stepO (ops : List Op) (s : List (List Int)) : List (List Int) := ops.foldl (fun s op => op s) s
def itO (ops : List Op) : Nat → List (List Int) → List (List Int)
 | 0, s => s
 | k + 1, s => itO ops k (stepO ops s)
theorem zKh {op : Op} {ops : List Op} {s : List (List Int)} : stepO (op :: ops) s = stepO ops (op s) := rfl
theorem zyl {nv : Nat} {ops : List Op} (ho : OpsOk nv ops) {s0 : List (List Int)} (h0 : s0.length = nv) : ∀ (us : List Op) (s : List (List Int)), (∀ op ∈ us, op ∈ ops) → Reach ops s0 s → Reach ops s0 (stepO us s)
 | [], s, _, h => h
 | op :: us, s, hs, h => by
  rw [zKh]
  exact zyl ho h0 us _ (fun op h => hs op (List.mem_cons_of_mem _ h)) (h.step ho h0 (hs op (List.mem_cons_self ..)))
theorem zzl {nv : Nat} {ops : List Op} (ho : OpsOk nv ops) {s0 : List (List Int)} (h0 : s0.length = nv) : ∀ (k : Nat) (s : List (List Int)), Reach ops s0 s → Reach ops s0 (itO ops k s)
 | 0, s, h => h
 | k + 1, s, h => by rw [itO]; exact zzl ho h0 k _ (zyl ho h0 ops s (fun op h => h) h)
theorem zAl {nv : Nat} : ∀ {a b : List Op}, All2 (fun f g => ∀ s, s.length = nv → f s = g s ∧ (f s).length = nv) a b → ∀ s, s.length = nv → stepO a s = stepO b s ∧ (stepO a s).length = nv
 | _, _, .nil, s, h => ⟨rfl, h⟩
 | f :: a, g :: b, .cons h hs, s, hl => by
  obtain ⟨h1, h2⟩ := h s hl
  rw [zKh, zKh, ← h1]
  exact zAl hs _ h2
theorem zBl {nv : Nat} {a b : List Op} (h : All2 (fun f g => ∀ s, s.length = nv → f s = g s ∧ (f s).length = nv) a b) : ∀ (k : Nat) (s : List (List Int)), s.length = nv → itO a k s = itO b k s
 | 0, s, _ => rfl
 | k + 1, s, hl => by
  obtain ⟨h1, h2⟩ := zAl h s hl
  rw [itO, itO, ← h1]
  exact zBl h k _ h2
theorem zLh {α β γ : Type} {R : β → γ → Prop} {f : α → β} {g : α → γ} : ∀ {l : List α}, (∀ x ∈ l, R (f x) (g x)) → All2 R (l.map f) (l.map g)
 | [], _ => .nil
 | x :: l, h => .cons (h x (List.mem_cons_self ..)) (zLh fun y hy => h y (List.mem_cons_of_mem _ hy))
theorem opsB_ok {m : MdlD} {cons : Bool} {l : List (List LitD)} (h : RightMC m l) : All2 (fun f g => ∀ s, s.length = m.vars.length → f s = g s ∧ (f s).length = m.vars.length) (opsOf m cons l) (opsB m cons l) := by
 have hu : All2 (fun (f g : Op) => ∀ s, s.length = m.vars.length → f s = g s ∧ (f s).length = m.vars.length) (unitOps l) (unitOps l) := zLh fun c hc s hs => ⟨rfl, (zVb h hc).len hs⟩
 cases cons with
 | false => exact hu
 | true => exact All2.append (zLh fun c hc s hs => ⟨zou (by rw [hs]; exact h.cons c hc), (zyc h hc).len hs⟩) hu
theorem zCl {α β : Type} {R : α → β → Prop} : ∀ {a : List α} {b : List β}, All2 R a b → ∀ x ∈ a, ∃ y ∈ b, R x y
 | _, _, .nil, x, h => by cases h
 | u :: a, v :: b, .cons h hs, x, hx => by
  rcases List.mem_cons.1 hx with rfl | hx
  ·exact ⟨v, List.mem_cons_self .., h⟩
  ·obtain ⟨y, h1, h2⟩ := zCl hs x hx
   exact ⟨y, List.mem_cons_of_mem _ h1, h2⟩
theorem runS_B {m : MdlD} {cons : Bool} {l : List (List LitD)} (h : RightMC m l) {s r : List (List Int)} (hs : s.length = m.vars.length) (k : Nat) (e : itO (opsB m cons l) k s = r) (hf : failS r = false) (hst : ((opsB m cons l).all fun op => decide (op r = r)) = true) : runS m cons l s = r := by
 have ho := opsB_ok (cons := cons) h
 rw [← zBl ho k s hs] at e
 have hr := zzl (ops_ok (cons := cons) h) hs k s (Reach.refl _ _)
 rw [e] at hr
 refine runS_eq h hs (hr.stop hf fun op hm => ?_)
 obtain ⟨g, hg, h2⟩ := zCl ho op hm
 rw [(h2 r (hr.le.1.trans hs)).1]
 exact of_decide_eq_true (List.all_eq_true.1 hst g hg)
theorem two_mc : RightMC twoM [] := z1f (by kernel_rfl)
theorem zDl {m : MdlD} {vs : List Int} (h : wholeM m vs = true) : ∀ c ∈ m.cons, trueC c vs = true := fun c hc => by
 rw [wholeM, Bool.and_eq_true, Bool.not_eq_true', Bool.not_eq_true'] at h
 have h2 := List.any_eq_false.1 h.2 c hc
 simpa using h2
theorem zEl {m : MdlD} {cons : Bool} {l : List (List LitD)} {s : List (List Int)} (h : RightMC m l) (hs : s.length = m.vars.length) {vs : List Int} (hv : InS vs s) (h1 : cons = true → ∀ c ∈ m.cons, trueC c vs = true) (h2 : ∀ c ∈ l, holdsC c vs = true) : InS vs (runS m cons l s) :=
 (zZ h hs).keeps hs hv fun op hm => by
  rcases mem_ops.1 hm with ⟨a, c, hc, rfl⟩ | ⟨c, hc, rfl⟩
  ·exact ⟨_, zyc h hc, h1 a c hc⟩
  ·exact ⟨_, zVb h hc, h2 c hc⟩
end Go.Proofs.YtajnbkhgnppckaaGreatDoor
