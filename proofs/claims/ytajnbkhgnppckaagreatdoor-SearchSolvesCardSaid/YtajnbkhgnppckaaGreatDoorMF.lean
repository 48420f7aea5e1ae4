/- Texts of this proof, one behind the other: nothing is handed in but what is proved here; no condition. -/
import Derived.Test.YtajnbkhgnppckaaGreatDoorPClause2
import Derived.Test.YtajnbkhgnppckaaGreatDoorPModel3
import Derived.Test.YtajnbkhgnppckaaGreatDoorPRef1
import Derived.Test.YtajnbkhgnppckaaGreatDoorMD
/- Stores, what is within them, operators that take values away, and what is left when nothing changes any more: plain laws, no program in sight. -/
namespace Go.Proofs.YtajnbkhgnppckaaGreatDoor
set_option linter.unusedVariables false
set_option linter.unusedSimpArgs false
def leS (t s : List (List Int)) : Prop := t.length = s.length ∧ ∀ v : Nat, (t.getD v []).Sublist (s.getD v [])
def InS (vs : List Int) (s : List (List Int)) : Prop := vs.length = s.length ∧ ∀ v : Nat, v < s.length → vs.getD v 0 ∈ s.getD v []
theorem leS.refl (s : List (List Int)) : leS s s := ⟨rfl, fun v => List.Sublist.refl _⟩
theorem leS.trans {a b c : List (List Int)} (h : leS a b) (h' : leS b c) : leS a c := ⟨h.1.trans h'.1, fun v => (h.2 v).trans (h'.2 v)⟩
theorem zxe {α : Type} {d : α} {a b : List α} (hl : a.length = b.length) (h : ∀ v : Nat, a.getD v d = b.getD v d) : a = b := by
 apply List.ext_getElem hl
 intro i h1 h2
 have := h i
 rwa [getD_at _ h1, getD_at _ h2] at this
theorem zj {α : Type} {d : α} {a : List α} {v : Nat} (h : a.length ≤ v) : a.getD v d = d := by
 rw [List.getD_eq_getElem?_getD, List.getElem?_eq_none h]; rfl
theorem leS.antisymm {a b : List (List Int)} (h : leS a b) (h' : leS b a) : a = b :=
 zxe h.1 fun v => (h.2 v).eq_of_length (Nat.le_antisymm (h.2 v).length_le (h'.2 v).length_le)
theorem zKb {f : Nat → Int → Bool} {s : List (List Int)} : leS (keepS f s) s := ⟨zw, fun v => by rw [zp]; exact List.filter_sublist⟩
theorem zdc {f : Nat → Int → Bool} {s : List (List Int)} (h : ∀ (v : Nat) (n : Int), n ∈ s.getD v [] → f v n = true) : keepS f s = s :=
 zxe zw fun v => by rw [zp]; exact List.filter_eq_self.2 fun n hn => h v n hn
theorem zye {f g : Nat → Int → Bool} {t s : List (List Int)} (h : leS t s) (hf : ∀ (v : Nat) (n : Int), n ∈ t.getD v [] → f v n = true → g v n = true) : leS (keepS f t) (keepS g s) := by
 refine ⟨by rw [zw, zw]; exact h.1, fun v => ?_⟩
 rw [zp, zp]
 refine List.Sublist.trans ?_ ((h.2 v).filter (g v))
 have e : (t.getD v []).filter (f v) = ((t.getD v []).filter (g v)).filter (f v) := by
  rw [List.filter_filter]
  refine List.filter_congr fun n hn => ?_
  cases hc : f v n
  ·rfl
  ·rw [hf v n hn hc]; rfl
 rw [e]; exact List.filter_sublist
theorem zy {s : List (List Int)} : failS s = false ↔ ∀ v : Nat, v < s.length → s.getD v [] ≠ [] := by
 rw [failS, List.any_eq_false]
 constructor
 ·intro h v hv e
  rw [getD_at _ hv] at e
  exact h _ (List.getElem_mem hv) (by rw [e]; rfl)
 ·intro h l hl e
  obtain ⟨i, hi, rfl⟩ := List.getElem_of_mem hl
  refine h i hi ?_
  rw [getD_at _ hi]
  exact List.length_eq_zero_iff.1 (of_decide_eq_true e)
theorem zUn {s : List (List Int)} : failS s = true ↔ ∃ v : Nat, v < s.length ∧ s.getD v [] = [] := by
 constructor
 ·intro h
  apply Classical.byContradiction
  intro hn
  rw [zy.2 fun v hv e => hn ⟨v, hv, e⟩] at h
  cases h
 ·rintro ⟨v, hv, e⟩
  cases h : failS s
  ·exact absurd e (zy.1 h v hv)
  ·rfl
theorem leS.fail {t s : List (List Int)} (h : leS t s) (hf : failS t = false) : failS s = false :=
 zy.2 fun v hv e => zy.1 hf v (by rw [h.1]; exact hv) (by have := h.2 v; rw [e] at this; exact List.sublist_nil.1 this)
theorem leS.failed {t s : List (List Int)} (h : leS t s) (hf : failS s = true) : failS t = true := by
 cases e : failS t
 ·rw [h.fail e] at hf; cases hf
 ·rfl
theorem InS.mono {vs : List Int} {t s : List (List Int)} (h : InS vs t) (hl : leS t s) : InS vs s := ⟨h.1.trans hl.1, fun v hv => (hl.2 v).subset (h.2 v (by rw [hl.1]; exact hv))⟩
theorem InS.fail {vs : List Int} {s : List (List Int)} (h : InS vs s) : failS s = false := zy.2 fun v hv e => by
 have := h.2 v hv
 rw [e] at this; cases this
theorem z1h {s : List (List Int)} : (noneS s).length = s.length := List.length_replicate ..
theorem zVn {s : List (List Int)} {v : Nat} : (noneS s).getD v [] = [] := by
 by_cases h : v < s.length
 ·rw [getD_at _ (by rw [z1h]; exact h)]; exact List.getElem_replicate ..
 ·exact zj (by rw [z1h]; omega)
theorem znd {s t : List (List Int)} (h : s.length = t.length) : leS (noneS s) t := ⟨z1h.trans h, fun v => by rw [zVn]; exact List.nil_sublist _⟩
theorem zec {s : List (List Int)} (h : 0 < s.length) : failS (noneS s) = true := zUn.2 ⟨0, by rw [z1h]; exact h, zVn⟩
theorem z2h {s t : List (List Int)} (h : s.length = t.length) : noneS s = noneS t := by rw [noneS, noneS, h]
theorem pick {s : List (List Int)} (hf : failS s = false) {v : Nat} {n : Int} (hn : n ∈ s.getD v []) : ∃ vs, InS vs s ∧ vs.getD v 0 = n := by
 refine ⟨s.mapIdx fun u l => if u = v then n else l.headD 0, ⟨List.length_mapIdx, fun u hu => ?_⟩, ?_⟩
 ·rw [getD_at _ (show u < (s.mapIdx fun u l => if u = v then n else l.headD 0).length by rw [List.length_mapIdx]; exact hu), List.getElem_mapIdx]
  by_cases e : u = v
  ·rw [if_pos e, e]; exact hn
  ·rw [if_neg e, getD_at _ hu]
   have h1 := zy.1 hf u hu
   rw [getD_at _ hu] at h1
   cases h : s[u] with
   | nil => exact absurd h h1
   | cons a l => exact List.mem_cons_self ..
 ·have hv : v < s.length := by
   apply Classical.byContradiction
   intro h
   rw [zj (by omega)] at hn; cases hn
  rw [getD_at _ (show v < (s.mapIdx fun u l => if u = v then n else l.headD 0).length by rw [List.length_mapIdx]; exact hv), List.getElem_mapIdx, if_pos rfl]
theorem zze {s : List (List Int)} (hf : failS s = false) : ∃ vs, InS vs s := by
 cases s with
 | nil => exact ⟨[], rfl, fun v hv => absurd hv (Nat.not_lt_zero _)⟩
 | cons a s =>
  have h1 := zy.1 hf 0 (Nat.zero_lt_succ _)
  cases a with
  | nil => exact absurd rfl h1
  | cons x a =>
   obtain ⟨vs, h, _⟩ := pick hf (v := 0) (n := x) (List.mem_cons_self ..)
   exact ⟨vs, h⟩
theorem zk {vs : List Int} {u v : Nat} {n : Int} (hv : v < vs.length) : (vs.set v n).getD u 0 = if u = v then n else vs.getD u 0 := by
 rw [List.getD_eq_getElem?_getD, List.getD_eq_getElem?_getD, List.getElem?_set]
 by_cases e : u = v
 ·rw [if_pos e.symm, if_pos e, if_pos (by omega)]; rfl
 ·rw [if_neg (fun x => e x.symm), if_neg e]
theorem InS.set {vs : List Int} {s : List (List Int)} (h : InS vs s) {v : Nat} {n : Int} (hn : n ∈ s.getD v []) (hv : v < s.length) : InS (vs.set v n) s := by
 refine ⟨by rw [List.length_set]; exact h.1, fun u hu => ?_⟩
 rw [zk (by rw [h.1]; exact hv)]
 split
 ·rename_i e; rw [e]; exact hn
 ·exact h.2 u hu
def May (Q : List Int → Bool) (s : List (List Int)) (v : Nat) (n : Int) : Prop := ∃ vs, InS vs s ∧ vs.getD v 0 = n ∧ Q vs = true
open Classical in
noncomputable def mayB (Q : List Int → Bool) (s : List (List Int)) (v : Nat) (n : Int) : Bool := decide (May Q s v n)
open Classical in
theorem zA {Q : List Int → Bool} {s : List (List Int)} {v : Nat} {n : Int} : mayB Q s v n = true ↔ May Q s v n := by rw [mayB]; exact decide_eq_true_iff
open Classical in
theorem zSx {Q : List Int → Bool} {s : List (List Int)} {v : Nat} {n : Int} : mayB Q s v n = false ↔ ¬May Q s v n := by rw [mayB]; exact decide_eq_false_iff_not
theorem May.mono {Q : List Int → Bool} {t s : List (List Int)} {v : Nat} {n : Int} (h : May Q t v n) (hl : leS t s) : May Q s v n := let ⟨vs, a, b, c⟩ := h; ⟨vs, a.mono hl, b, c⟩
abbrev Op := List (List Int) → List (List Int)
structure IsOp (nv : Nat) (op : Op) (Q : List Int → Bool) : Prop where
 fail : ∀ s, s.length = nv → failS s = true → op s = s
 none : ∀ s, s.length = nv → failS s = false → (¬∃ vs, InS vs s ∧ Q vs = true) → failS (op s) = true ∧ leS (op s) s
 some : ∀ s, s.length = nv → failS s = false → (∃ vs, InS vs s ∧ Q vs = true) → op s = keepS (mayB Q s) s
section
variable {nv : Nat} {op : Op} {Q : List Int → Bool} {s t : List (List Int)}
theorem IsOp.le (h : IsOp nv op Q) (hl : s.length = nv) : leS (op s) s := by
 cases hf : failS s
 ·by_cases he : ∃ vs, InS vs s ∧ Q vs = true
  ·rw [h.some s hl hf he]; exact zKb
  ·exact (h.none s hl hf he).2
 ·rw [h.fail s hl hf]; exact leS.refl s
theorem IsOp.len (h : IsOp nv op Q) (hl : s.length = nv) : (op s).length = nv := (h.le hl).1.trans hl
theorem IsOp.keeps (h : IsOp nv op Q) (hl : s.length = nv) {vs : List Int} (hv : InS vs s) (hq : Q vs = true) : InS vs (op s) := by
 rw [h.some s hl hv.fail ⟨vs, hv, hq⟩]
 refine ⟨hv.1.trans zw.symm, fun v hv' => ?_⟩
 rw [zp, List.mem_filter]
 rw [zw] at hv'
 exact ⟨hv.2 v hv', zA.2 ⟨vs, hv, rfl, hq⟩⟩
theorem IsOp.nofail (h : IsOp nv op Q) (hl : s.length = nv) : failS (op s) = false ↔ ∃ vs, InS vs s ∧ Q vs = true := by
 constructor
 ·intro hf
  have hs := (h.le hl).fail hf
  apply Classical.byContradiction
  intro he
  rw [(h.none s hl hs he).1] at hf; cases hf
 ·rintro ⟨vs, h1, h2⟩
  exact (h.keeps hl h1 h2).fail
theorem IsOp.mono (h : IsOp nv op Q) (hl : s.length = nv) (hts : leS t s) (hf : failS (op t) = false) : leS (op t) (op s) := by
 have hlt : t.length = nv := hts.1.trans hl
 have he := (h.nofail hlt).1 hf
 obtain ⟨vs, h1, h2⟩ := he
 rw [h.some t hlt h1.fail ⟨vs, h1, h2⟩, h.some s hl (h1.mono hts).fail ⟨vs, h1.mono hts, h2⟩]
 exact zye hts fun v n _ hm => zA.2 ((zA.1 hm).mono hts)
theorem IsOp.congr {Q' : List Int → Bool} (h : IsOp nv op Q) (hl : s.length = nv) {vs : List Int} (hst : op s = s) (hf : failS s = false) (v : Nat) (n : Int) (hn : n ∈ s.getD v []) : ∃ us, InS us s ∧ us.getD v 0 = n ∧ Q us = true := by
 have := (h.nofail hl).1 (by rw [hst]; exact hf)
 have e := h.some s hl hf this
 rw [hst] at e
 rw [e, zp, List.mem_filter] at hn
 exact zA.1 hn.2
end
def Stab (ops : List Op) (s : List (List Int)) : Prop := ∀ op ∈ ops, op s = s
def OpsOk (nv : Nat) (ops : List Op) : Prop := ∀ op ∈ ops, ∃ Q, IsOp nv op Q
structure Reach (ops : List Op) (s r : List (List Int)) : Prop where
 le : leS r s
 all : ∀ t, leS t s → failS t = false → Stab ops t → leS t r
theorem Reach.refl (ops : List Op) (s : List (List Int)) : Reach ops s s := ⟨leS.refl s, fun t h _ _ => h⟩
theorem Reach.step {nv : Nat} {ops : List Op} {s r : List (List Int)} (ho : OpsOk nv ops) (hl : s.length = nv) (h : Reach ops s r) {op : Op} (hm : op ∈ ops) : Reach ops s (op r) := by
 obtain ⟨Q, hq⟩ := ho op hm
 have hr : r.length = nv := h.le.1.trans hl
 refine ⟨(hq.le hr).trans h.le, fun t h1 h2 h3 => ?_⟩
 have e := h3 op hm
 have := hq.mono hr (h.all t h1 h2 h3) (by rw [e]; exact h2)
 rwa [e] at this
structure FixR (ops : List Op) (s r : List (List Int)) : Prop where
 le : leS r s
 all : ∀ t, leS t s → failS t = false → Stab ops t → leS t r
 out : (failS r = false ∧ Stab ops r) ∨ r = noneS s
theorem FixR.unique {ops : List Op} {s r r' : List (List Int)} (hs : 0 < s.length) (h : FixR ops s r) (h' : FixR ops s r') : r = r' := by
 rcases h.out with ⟨h1, h2⟩ | h1 <;> rcases h'.out with ⟨k1, k2⟩ | k1
 ·exact (h'.all r h.le h1 h2).antisymm (h.all r' h'.le k1 k2)
 ·have := (h'.all r h.le h1 h2).fail h1
  rw [k1, zec hs] at this; cases this
 ·have := (h.all r' h'.le k1 k2).fail k1
  rw [h1, zec hs] at this; cases this
 ·rw [h1, k1]
theorem Reach.stop {ops : List Op} {s r : List (List Int)} (h : Reach ops s r) (hf : failS r = false) (hst : Stab ops r) : FixR ops s r := ⟨h.le, h.all, .inl ⟨hf, hst⟩⟩
theorem Reach.dead {ops : List Op} {s r : List (List Int)} (h : Reach ops s r) (hf : failS r = true) : FixR ops s (noneS s) :=
 ⟨znd rfl, fun t h1 h2 h3 => (by have := (h.all t h1 h2 h3).fail h2; rw [hf] at this; cases this), .inr rfl⟩
theorem Reach.trans {ops : List Op} {s r q : List (List Int)} (h : Reach ops s r) (h' : FixR ops r q) : FixR ops s q :=
 ⟨h'.le.trans h.le, fun t h1 h2 h3 => h'.all t (h.all t h1 h2 h3) h2 h3, h'.out.imp id fun e => e.trans (z2h h.le.1)⟩
def sizeS (s : List (List Int)) : Nat := (s.map List.length).sum
theorem zKj : ∀ {a b : List (List Int)}, a.length = b.length → (∀ v : Nat, (a.getD v []).Sublist (b.getD v [])) → sizeS a ≤ sizeS b ∧ (sizeS a = sizeS b → a = b)
 | [], [], _, _ => ⟨Nat.le_refl _, fun _ => rfl⟩
 | x :: a, y :: b, hl, h => by
  have h0 : x.Sublist y := h 0
  obtain ⟨i1, i2⟩ := zKj (a := a) (b := b) (by simpa using hl) fun v => h (v + 1)
  have e1 : sizeS (x :: a) = x.length + sizeS a := rfl
  have e2 : sizeS (y :: b) = y.length + sizeS b := rfl
  have := h0.length_le
  refine ⟨by omega, fun e => ?_⟩
  rw [h0.eq_of_length (by omega), i2 (by omega)]
 | [], _ :: _, hl, _ => by simp at hl
 | _ :: _, [], hl, _ => by simp at hl
theorem leS.size {t s : List (List Int)} (h : leS t s) : sizeS t ≤ sizeS s := (zKj h.1 h.2).1
theorem leS.size_lt {t s : List (List Int)} (h : leS t s) (hn : t ≠ s) : sizeS t < sizeS s := Nat.lt_of_le_of_ne h.size fun e => hn ((zKj h.1 h.2).2 e)
theorem zTx {nv : Nat} {ops : List Op} (ho : OpsOk nv ops) : ∀ (k : Nat) (s : List (List Int)), s.length = nv → sizeS s ≤ k → ∃ r, FixR ops s r := by
 intro k
 induction k with
 | zero =>
  intro s hl hk
  cases hf : failS s
  ·by_cases hst : Stab ops s
   ·exact ⟨s, (Reach.refl ops s).stop hf hst⟩
   ·refine absurd (fun op hm => ?_) hst
    obtain ⟨Q, hq⟩ := ho op hm
    apply Classical.byContradiction
    intro hn
    have := (hq.le hl).size_lt hn
    omega
  ·exact ⟨_, (Reach.refl ops s).dead hf⟩
 | succ k ih =>
  intro s hl hk
  cases hf : failS s
  ·by_cases hst : Stab ops s
   ·exact ⟨s, (Reach.refl ops s).stop hf hst⟩
   ·obtain ⟨op, hm, hn⟩ : ∃ op, op ∈ ops ∧ op s ≠ s := by
     apply Classical.byContradiction
     intro h
     exact hst fun op hm => Classical.byContradiction fun hn => h ⟨op, hm, hn⟩
    obtain ⟨Q, hq⟩ := ho op hm
    have := (hq.le hl).size_lt hn
    obtain ⟨r, hr⟩ := ih (op s) (hq.len hl) (by omega)
    exact ⟨r, ((Reach.refl ops s).step ho hl hm).trans hr⟩
  ·exact ⟨_, (Reach.refl ops s).dead hf⟩
open Classical in
noncomputable def fixS (ops : List Op) (s : List (List Int)) : List (List Int) := if h : ∃ r, FixR ops s r then Classical.choose h else s
theorem zUx {nv : Nat} {ops : List Op} {s : List (List Int)} (ho : OpsOk nv ops) (hl : s.length = nv) : FixR ops s (fixS ops s) := by
 have h := zTx ho _ s hl (Nat.le_refl _)
 rw [fixS, dif_pos h]
 exact Classical.choose_spec h
theorem fixS_eq {ops : List Op} {s r : List (List Int)} (hs : 0 < s.length) (h : FixR ops s r) : fixS ops s = r := by
 have h' : ∃ r, FixR ops s r := ⟨r, h⟩
 rw [fixS, dif_pos h']
 exact (Classical.choose_spec h').unique hs h
section
variable {nv : Nat} {ops : List Op} {s t r : List (List Int)}
theorem zVx {vs : List Int} (h : InS vs s) : leS (vs.map fun n => [n]) s := by
 refine ⟨by rw [List.length_map]; exact h.1, fun v => ?_⟩
 by_cases hv : v < s.length
 ·rw [getD_at _ (show v < (vs.map fun n => [n]).length by rw [List.length_map, h.1]; exact hv), List.getElem_map, List.singleton_sublist]
  have := h.2 v hv
  rwa [getD_at _ (show v < vs.length by rw [h.1]; exact hv)] at this
 ·rw [zj (by rw [List.length_map, h.1]; omega)]; exact List.nil_sublist _
theorem zAe (vs : List Int) : InS vs (vs.map fun n => [n]) := ⟨by rw [List.length_map], fun v hv => by
 rw [getD_at _ hv, List.getElem_map, List.mem_singleton, getD_at]⟩
theorem IsOp.single {op : Op} {Q : List Int → Bool} (h : IsOp nv op Q) {vs : List Int} (hl : vs.length = nv) (hq : Q vs = true) : op (vs.map fun n => [n]) = vs.map fun n => [n] := by
 have hs : (vs.map fun n => [n]).length = nv := by rw [List.length_map]; exact hl
 rw [h.some _ hs (zAe vs).fail ⟨vs, zAe vs, hq⟩]
 refine zdc fun v n hn => zA.2 ⟨vs, zAe vs, ?_, hq⟩
 by_cases hv : v < vs.length
 ·rw [getD_at _ (show v < (vs.map fun n => [n]).length by rw [List.length_map]; exact hv), List.getElem_map, List.mem_singleton] at hn
  rw [getD_at _ hv, hn]
 ·rw [zj (by rw [List.length_map]; omega)] at hn; cases hn
theorem FixR.keeps (h : FixR ops s r) (hl : s.length = nv) {vs : List Int} (hv : InS vs s) (hq : ∀ op ∈ ops, ∃ Q, IsOp nv op Q ∧ Q vs = true) : InS vs r := by
 have h1 := h.all (vs.map fun n => [n]) (zVx hv) (zAe vs).fail fun op hm => by
  obtain ⟨Q, h1, h2⟩ := hq op hm
  exact h1.single (hv.1.trans hl) h2
 exact (zAe vs).mono h1
theorem FixR.mono {ops' : List Op} {s' r' : List (List Int)} (hs : 0 < s.length) (h : FixR ops s r) (h' : FixR ops' s' r') (hle : leS s s') (hsub : ∀ op ∈ ops', op ∈ ops) : leS r r' := by
 rcases h.out with ⟨h1, h2⟩ | h1
 ·exact h'.all r (h.le.trans hle) h1 fun op hm => h2 op (hsub op hm)
 ·rw [h1]; exact znd (hle.1.trans h'.le.1.symm)
theorem FixR.failed (h : FixR ops s r) (hf : failS s = true) : r = noneS s := by
 rcases h.out with ⟨h1, _⟩ | h1
 ·have := h.le.fail h1; rw [hf] at this; cases this
 ·exact h1
end
end Go.Proofs.YtajnbkhgnppckaaGreatDoor
/- What one constraint, or one clause, takes from a store: operators in the sense of the plain laws. -/
namespace Go.Proofs.YtajnbkhgnppckaaGreatDoor
set_option linter.unusedVariables false
set_option linter.unusedSimpArgs false
theorem zLj {α : Type} {p q : α → Bool} : ∀ {l : List α}, (∀ x ∈ l, p x = q x) → l.any p = l.any q
 | [], _ => rfl
 | x :: l, h => by rw [List.any_cons, List.any_cons, h x (List.mem_cons_self ..), zLj fun y hy => h y (List.mem_cons_of_mem _ hy)]
theorem inC_var {c : ConD} {v : Int} (h : v ∈ c.vars) : inC c v = true := by
 rw [inC, Bool.or_eq_true]; exact .inl (List.any_eq_true.2 ⟨v, h, decide_eq_true rfl⟩)
theorem inC_lit {c : ConD} {l : LitD} (h : l ∈ c.lits) : inC c l.var = true := by
 rw [inC, Bool.or_eq_true]; exact .inr (List.any_eq_true.2 ⟨l, h, decide_eq_true rfl⟩)
theorem inC_of {c : ConD} {v : Int} (h : inC c v = true) : v ∈ c.vars ∨ ∃ l ∈ c.lits, l.var = v := by
 rw [inC, Bool.or_eq_true, List.any_eq_true, List.any_eq_true] at h
 rcases h with ⟨x, hx, e⟩ | ⟨l, hl, e⟩
 ·rw [← of_decide_eq_true e]; exact .inl hx
 ·exact .inr ⟨l, hl, of_decide_eq_true e⟩
theorem zWx {c : ConD} {nv : Nat} (hc : RightC c nv) {vs us : List Int} (h : ∀ v : Nat, v < nv → inC c v = true → vs.getD v 0 = us.getD v 0) : valsC c vs = valsC c us := by
 unfold valsC
 refine List.map_congr_left fun v hv => ?_
 have h1 := hc.vars v hv
 refine h v.toNat (by omega) ?_
 rw [Int.toNat_of_nonneg h1.1]; exact inC_var hv
theorem zqb {c : ConD} {nv : Nat} (hc : RightC c nv) {vs us : List Int} (h : ∀ v : Nat, v < nv → inC c v = true → vs.getD v 0 = us.getD v 0) : trueC c vs = trueC c us := by
 have h1 := zWx hc h
 have h2 : ∀ l ∈ c.lits, holdsL l (vs.getD l.var.toNat 0) = holdsL l (us.getD l.var.toNat 0) := fun l hl => by
  have h1 := (zJ.1 (hc.lits l hl)).1
  rw [h l.var.toNat (by omega) (by rw [Int.toNat_of_nonneg h1.1]; exact inC_lit hl)]
 have h3 : (c.lits.any fun l => holdsL l (vs.getD l.var.toNat 0)) = c.lits.any fun l => holdsL l (us.getD l.var.toNat 0) := zLj h2
 have h4 : ((c.lits.take 1).any fun l => holdsL l (vs.getD l.var.toNat 0)) = (c.lits.take 1).any fun l => holdsL l (us.getD l.var.toNat 0) := zLj fun l hl => h2 l (List.mem_of_mem_take hl)
 unfold trueC
 rw [h1, h3, h4]
theorem zBe {f g : Nat → Int → Bool} {s : List (List Int)} (h : ∀ (v : Nat) (n : Int), n ∈ s.getD v [] → f v n = g v n) : keepS f s = keepS g s :=
 zxe (d := []) (by rw [zw, zw]) fun v => by rw [zp, zp]; exact List.filter_congr fun n hn => h v n hn
theorem zMj {c : ConD} {nv : Nat} (h : scopeC c nv = []) {v : Nat} (hv : v < nv) : inC c v = false := by
 cases e : inC c v
 ·rfl
 ·have : (v : Int) ∈ scopeC c nv := List.mem_filter.2 ⟨upL_mem.2 (by omega), e⟩
  rw [h] at this; cases this
theorem zM {c : ConD} {nv : Nat} {v : Int} : v ∈ scopeC c nv ↔ (0 ≤ v ∧ v < nv) ∧ inC c v = true := by
 rw [scopeC, List.mem_filter, upL_mem]
 constructor
 ·rintro ⟨h1, h2⟩; exact ⟨by omega, h2⟩
 ·rintro ⟨h1, h2⟩; exact ⟨by omega, h2⟩
noncomputable def filterS (c : ConD) (s : List (List Int)) : List (List Int) :=
 if failS s = true then s else if scopeC c s.length = [] then (if trueC c [] = true then s else noneS s) else keepS (fun v n => !inC c v || mayB (trueC c) s v n) s
theorem zCe {c : ConD} {nv : Nat} (hc : RightC c nv) (h0 : 0 < nv) : IsOp nv (filterS c) (trueC c) := by
 refine ⟨fun s hl hf => if_pos hf, fun s hl hf he => ?_, fun s hl hf he => ?_⟩
 ·rw [filterS, if_neg (by rw [hf]; decide)]
  by_cases hs : scopeC c s.length = []
  ·rw [if_pos hs, if_neg]
   ·exact ⟨zec (by omega), znd rfl⟩
   ·intro ht
    obtain ⟨vs, hv⟩ := zze hf
    refine he ⟨vs, hv, ?_⟩
    rw [← ht]
    exact zqb hc fun v h1 h2 => by rw [hl] at hs; rw [zMj hs h1] at h2; cases h2
  ·rw [if_neg hs]
   refine ⟨?_, zKb⟩
   obtain ⟨v, hv⟩ := List.exists_mem_of_ne_nil _ hs
   obtain ⟨h1, h2⟩ := zM.1 hv
   refine zUn.2 ⟨v.toNat, by rw [zw]; omega, ?_⟩
   rw [zp, List.filter_eq_nil_iff]
   intro n hn hx
   rw [Int.toNat_of_nonneg h1.1, h2, Bool.not_true, Bool.false_or] at hx
   obtain ⟨vs, a, _, b⟩ := zA.1 hx
   exact he ⟨vs, a, b⟩
 ·obtain ⟨vs, hv, ht⟩ := he
  rw [filterS, if_neg (by rw [hf]; decide)]
  by_cases hs : scopeC c s.length = []
  ·have hn : ∀ us, trueC c us = true := fun us => by
    rw [← ht]
    exact zqb hc fun v h1 h2 => by rw [hl] at hs; rw [zMj hs h1] at h2; cases h2
   rw [if_pos hs, if_pos (hn []), zdc fun v n hm => zA.2 ?_]
   obtain ⟨us, h1, h2⟩ := pick hf hm
   exact ⟨us, h1, h2, hn us⟩
  ·rw [if_neg hs]
   refine zBe fun v n hn => ?_
   cases hi : inC c v
   ·rw [Bool.not_false, Bool.true_or]
    have hvl : v < s.length := by
     apply Classical.byContradiction
     intro h
     rw [zj (by omega)] at hn; cases hn
    refine (zA.2 ⟨vs.set v n, hv.set hn hvl, ?_, ?_⟩).symm
    ·rw [zk (by rw [hv.1]; exact hvl), if_pos rfl]
    ·rw [← ht]
     refine zqb hc fun u h1 h2 => ?_
     rw [zk (by rw [hv.1]; exact hvl), if_neg]
     intro e; rw [e, hi] at h2; cases h2
   ·rw [Bool.not_true, Bool.false_or]
theorem zNj {s : List (List Int)} {l : LitD} : 0 ≤ toldL s l ↔ ∃ n ∈ s.getD l.var.toNat [], holdsL l n = true := by
 rw [toldL, toldR]
 split
 ·rename_i h
  rw [List.any_eq_false] at h
  exact ⟨fun e => absurd e (by decide), fun ⟨n, h1, h2⟩ => absurd h2 (h n h1)⟩
 ·rename_i h
  rw [Bool.not_eq_false, List.any_eq_true] at h
  refine ⟨fun _ => h, fun _ => ?_⟩
  split <;> decide
theorem zOj {s : List (List Int)} {c : List LitD} {v : Int} : v ∈ liveV s c ↔ ∃ l ∈ c, l.var = v ∧ ∃ n ∈ s.getD v.toNat [], holdsL l n = true := by
 rw [liveV, List.mem_map]
 constructor
 ·rintro ⟨l, hl, rfl⟩
  obtain ⟨h1, h2⟩ := List.mem_filter.1 hl
  exact ⟨l, h1, rfl, zNj.1 (of_decide_eq_true h2)⟩
 ·rintro ⟨l, h1, rfl, h2⟩
  exact ⟨l, List.mem_filter.2 ⟨h1, decide_eq_true (zNj.2 h2)⟩, rfl⟩
theorem zLb {c : List LitD} {vs : List Int} : holdsC c vs = true ↔ ∃ l ∈ c, holdsL l (vs.getD l.var.toNat 0) = true := List.any_eq_true
theorem atC_iff' {c : List LitD} {v n : Int} : atC c v n = true ↔ ∃ l ∈ c, l.var = v ∧ holdsL l n = true := by
 rw [atC, List.any_eq_true]
 constructor
 ·rintro ⟨l, hl, h⟩
  split at h
  ·rename_i e; exact ⟨l, hl, e, h⟩
  ·cases h
 ·rintro ⟨l, hl, h1, h2⟩
  exact ⟨l, hl, by rw [if_pos h1]; exact h2⟩
theorem unit_op {c : List LitD} {nv : Nat} (hc : ∀ l ∈ c, 0 ≤ l.var ∧ l.var < nv) (h0 : 0 < nv) : IsOp nv (fun s => unitC s c) (holdsC c) := by
 have lives : ∀ {s : List (List Int)} {vs : List Int} {l : LitD}, s.length = nv → InS vs s → l ∈ c → holdsL l (vs.getD l.var.toNat 0) = true → l.var ∈ liveV s c := fun {s vs l} hl hv hm hh => by
  have := hc l hm
  exact zOj.2 ⟨l, hm, rfl, _, hv.2 _ (by omega), hh⟩
 have holds : ∀ {s : List (List Int)}, s.length = nv → failS s = false → ∀ {v : Int}, v ∈ liveV s c → ∀ (w : Nat) (n : Int), n ∈ s.getD w [] → (w : Int) ≠ v → ∃ vs, InS vs s ∧ vs.getD w 0 = n ∧ holdsC c vs = true := fun {s} hl hf {v} hm w n hn hw => by
  obtain ⟨l, h1, h2, k, h3, h4⟩ := zOj.1 hm
  have hr := hc l h1
  obtain ⟨vs, hv, e⟩ := pick hf h3
  have hwl : w < s.length := by
   apply Classical.byContradiction
   intro h
   rw [zj (by omega)] at hn; cases hn
  refine ⟨vs.set w n, hv.set hn hwl, by rw [zk (by rw [hv.1]; exact hwl), if_pos rfl], zLb.2 ⟨l, h1, ?_⟩⟩
  rw [zk (by rw [hv.1]; exact hwl), if_neg (by omega), h2, e]; exact h4
 refine ⟨fun s hl hf => if_pos hf, fun s hl hf he => ?_, fun s hl hf he => ?_⟩
 ·have hL : liveV s c = [] := by
   cases h : liveV s c with
   | nil => rfl
   | cons v vs =>
    obtain ⟨l, h1, h2, n, h3, h4⟩ := zOj.1 (show v ∈ liveV s c by rw [h]; exact List.mem_cons_self ..)
    obtain ⟨us, hu, e⟩ := pick hf h3
    exact absurd ⟨us, hu, zLb.2 ⟨l, h1, by rw [h2, e]; exact h4⟩⟩ he
  show failS (unitC s c) = true ∧ leS (unitC s c) s
  rw [unitC, if_neg (by rw [hf]; decide), z0h c fun l hl => (hc l hl).1, hL]
  exact ⟨zec (by omega), znd rfl⟩
 ·obtain ⟨vs, hv, ht⟩ := he
  obtain ⟨l, hlm, hlh⟩ := zLb.1 ht
  have hlv := lives hl hv hlm hlh
  show unitC s c = _
  rw [unitC, if_neg (by rw [hf]; decide), z0h c fun l hl => (hc l hl).1]
  cases hL : liveV s c with
  | nil => rw [hL] at hlv; cases hlv
  | cons u us =>
   have hum : u ∈ liveV s c := by rw [hL]; exact List.mem_cons_self ..
   by_cases ha : us.all (fun x => decide (x = u)) = true
   ·simp only [ha, if_true]
    have hall : ∀ x ∈ liveV s c, x = u := fun x hx => by
     rw [hL] at hx
     rcases List.mem_cons.1 hx with h | h
     ·exact h
     ·exact of_decide_eq_true (List.all_eq_true.1 ha x h)
    refine zBe fun w n hn => ?_
    by_cases hw : (w : Int) = u
    ·rw [decide_eq_true hw, Bool.not_true, Bool.false_or]
     apply Bool.eq_iff_iff.2
     rw [atC_iff', zA]
     constructor
     ·rintro ⟨l, h1, h2, h3⟩
      obtain ⟨x, hx, e⟩ := pick hf hn
      refine ⟨x, hx, e, zLb.2 ⟨l, h1, ?_⟩⟩
      rw [show l.var.toNat = w by omega, e]; exact h3
     ·rintro ⟨x, hx, e, hh⟩
      obtain ⟨l, h1, h2⟩ := zLb.1 hh
      have h3 := hall _ (lives hl hx h1 h2)
      refine ⟨l, h1, h3, ?_⟩
      rwa [show l.var.toNat = w by omega, e] at h2
    ·rw [decide_eq_false hw, Bool.not_false, Bool.true_or]
     exact (zA.2 (holds hl hf hum w n hn hw)).symm
   ·simp only [ha]
    have hx : ∃ x ∈ us, x ≠ u := by
     apply Classical.byContradiction
     intro hn
     exact ha (List.all_eq_true.2 fun x hx => decide_eq_true (Classical.byContradiction fun e => hn ⟨x, hx, e⟩))
    obtain ⟨x, hx, hxu⟩ := hx
    have hxm : x ∈ liveV s c := by rw [hL]; exact List.mem_cons_of_mem _ hx
    refine (zdc fun w n hn => zA.2 ?_).symm
    by_cases hw : (w : Int) = u
    ·exact holds hl hf hxm w n hn (by omega)
    ·exact holds hl hf hum w n hn hw
end Go.Proofs.YtajnbkhgnppckaaGreatDoor
/- Maps as lists of entries, lists without repeats, and how a matching is found: plain laws, no program in sight. -/
namespace Go.Proofs.YtajnbkhgnppckaaGreatDoor
set_option linter.unusedVariables false
set_option linter.unusedSimpArgs false
def LKey (kt : Ty) : Prop := ∀ a b : kt.den, keq kt a b = true ↔ a = b
theorem zdb : LKey .int := fun a b => decide_eq_true_iff
theorem lkey_pr : LKey (.pr .int .int) := fun a b => by
 show (decide (a.1 = b.1) && decide (a.2 = b.2)) = true ↔ a = b
 rw [Bool.and_eq_true, decide_eq_true_iff, decide_eq_true_iff]
 exact ⟨fun h => Prod.ext h.1 h.2, fun h => by rw [h]; exact ⟨rfl, rfl⟩⟩
section
variable {kt vt : Ty}
theorem zPj (hk : LKey kt) (x : kt.den) : keq kt x x = true := (hk x x).2 rfl
theorem keq_ne (hk : LKey kt) {x y : kt.den} (h : x ≠ y) : keq kt x y = false := by
 cases e : keq kt x y
 ·rfl
 ·exact absurd ((hk x y).1 e) h
theorem zDe (hk : LKey kt) {x : kt.den} {y : vt.den} : ∀ es : List (kt.den × vt.den), mget kt vt x (mput kt vt x y es) = some y
 | [] => by rw [mput, mget, zPj hk]; rfl
 | (a, b) :: es => by
  rw [mput]
  cases e : keq kt x a
  ·rw [cond_false, mget, e, cond_false]; exact zDe hk es
  ·rw [cond_true, mget, e]; rfl
theorem zEe (hk : LKey kt) {x z : kt.den} {y : vt.den} (h : z ≠ x) : ∀ es : List (kt.den × vt.den), mget kt vt z (mput kt vt x y es) = mget kt vt z es
 | [] => by rw [mput, mget, mget, keq_ne hk h]; rfl
 | (a, b) :: es => by
  rw [mput]
  cases e : keq kt x a
  ·rw [cond_false, mget, mget]
   cases keq kt z a
   ·rw [cond_false, cond_false]; exact zEe hk h es
   ·rfl
  ·have := (hk x a).1 e
   subst this
   rw [cond_true, mget, mget, keq_ne hk h, cond_false, cond_false]
theorem z3h (hk : LKey kt) {x : kt.den} {y : vt.den} : ∀ es : List (kt.den × vt.den), mget kt vt x es = none → mput kt vt x y es = es ++ [(x, y)]
 | [], _ => rfl
 | (a, b) :: es, h => by
  rw [mget] at h
  cases e : keq kt x a
  ·rw [e, cond_false] at h
   rw [mput, e, cond_false, z3h hk es h]; rfl
  ·rw [e] at h; cases h
theorem zWn (hk : LKey kt) {x : kt.den} {y k : vt.den} : ∀ es : List (kt.den × vt.den), mget kt vt x es = some k → (k :: (mput kt vt x y es).map Prod.snd).Perm (y :: es.map Prod.snd)
 | [], h => by cases h
 | (a, b) :: es, h => by
  rw [mget] at h
  cases e : keq kt x a
  ·rw [e, cond_false] at h
   rw [mput, e, cond_false, List.map_cons, List.map_cons]
   exact (List.Perm.swap _ _ _).trans (((zWn hk es h).cons b).trans (List.Perm.swap _ _ _))
  ·rw [e, cond_true] at h
   obtain rfl : b = k := by cases h; rfl
   rw [mput, e, cond_true, List.map_cons, List.map_cons]
   exact List.Perm.swap _ _ _
theorem zXn (hk : LKey kt) {x : kt.den} {y k : vt.den} : ∀ es : List (kt.den × vt.den), mget kt vt x es = some k → (mput kt vt x y es).map Prod.fst = es.map Prod.fst
 | [], h => by cases h
 | (a, b) :: es, h => by
  rw [mget] at h
  cases e : keq kt x a
  ·rw [e, cond_false] at h
   rw [mput, e, cond_false, List.map_cons, List.map_cons, zXn hk es h]
  ·rw [mput, e, cond_true]; rfl
theorem zfc (hk : LKey kt) {x : kt.den} : ∀ es : List (kt.den × vt.den), x ∈ es.map Prod.fst ↔ ∃ k, mget kt vt x es = some k
 | [] => ⟨fun h => (by cases h), fun ⟨k, h⟩ => (by cases h)⟩
 | (a, b) :: es => by
  rw [List.map_cons, List.mem_cons, mget]
  cases e : keq kt x a
  ·rw [cond_false]
   have hn : x ≠ a := fun h => by subst h; rw [zPj hk] at e; cases e
   exact ⟨fun h => (zfc hk es).1 (h.resolve_left hn), fun h => .inr ((zfc hk es).2 h)⟩
  ·exact ⟨fun _ => ⟨b, rfl⟩, fun _ => .inl ((hk x a).1 e)⟩
theorem zYn (hk : LKey kt) {x : kt.den} {k : vt.den} : ∀ es : List (kt.den × vt.den), mget kt vt x es = some k → (x, k) ∈ es
 | [], h => by cases h
 | (a, b) :: es, h => by
  rw [mget] at h
  cases e : keq kt x a
  ·rw [e, cond_false] at h; exact List.mem_cons_of_mem _ (zYn hk es h)
  ·rw [e, cond_true] at h
   obtain rfl : b = k := by cases h; rfl
   rw [(hk x a).1 e]; exact List.mem_cons_self ..
theorem mget_of (hk : LKey kt) {x : kt.den} {k : vt.den} : ∀ es : List (kt.den × vt.den), (es.map Prod.fst).Nodup → (x, k) ∈ es → mget kt vt x es = some k
 | [], _, h => by cases h
 | (a, b) :: es, hn, h => by
  rw [List.map_cons, List.nodup_cons] at hn
  rw [mget]
  rcases List.mem_cons.1 h with h | h
  ·obtain ⟨rfl, rfl⟩ : x = a ∧ k = b := by cases h; exact ⟨rfl, rfl⟩
   rw [zPj hk]; rfl
  ·rw [keq_ne hk fun e => hn.1 (by rw [← e]; exact List.mem_map.2 ⟨_, h, rfl⟩), cond_false]
   exact mget_of hk es hn.2 h
theorem zZn (hk : LKey kt) {x : kt.den} {y : vt.den} {es : List (kt.den × vt.den)} (h : (es.map Prod.fst).Nodup) : ((mput kt vt x y es).map Prod.fst).Nodup := by
 cases e : mget kt vt x es with
 | none =>
  rw [z3h hk es e, List.map_append, List.nodup_append]
  refine ⟨h, by simp, fun a ha b hb => ?_⟩
  rintro rfl
  obtain rfl : a = x := by simpa using hb
  obtain ⟨k, h2⟩ := (zfc hk es).1 ha
  rw [e] at h2; cases h2
 | some k => rw [zXn hk es e]; exact h
theorem zQj (hk : LKey kt) {x z : kt.den} {y : vt.den} (es : List (kt.den × vt.den)) : z ∈ (mput kt vt x y es).map Prod.fst ↔ z = x ∨ z ∈ es.map Prod.fst := by
 rw [zfc hk, zfc hk]
 constructor
 ·rintro ⟨k, h⟩
  apply Classical.byContradiction
  intro hn
  rw [zEe hk (fun e => hn (.inl e))] at h
  exact hn (.inr ⟨k, h⟩)
 ·rintro (rfl | ⟨k, h⟩)
  ·exact ⟨y, zDe hk es⟩
  ·apply Classical.byContradiction
   intro hn
   by_cases e : z = x
   ·subst e; exact hn ⟨y, zDe hk es⟩
   ·exact hn ⟨k, by rw [zEe hk e]; exact h⟩
end
theorem getD_at' {α : Type} {t : List α} {k : Nat} (d : α) (h : k < t.length) : t.getD k d = t[k] := by rw [List.getD_eq_getElem?_getD, List.getElem?_eq_getElem h]; rfl
theorem upZ_mem {lo : Int} : ∀ {n : Nat} {k : Int}, k ∈ (List.range n).map (fun i : Nat => lo + i) ↔ lo ≤ k ∧ k < lo + n := fun {n k} => by
 rw [List.mem_map]
 constructor
 ·rintro ⟨i, hi, rfl⟩; have := List.mem_range.1 hi; omega
 ·rintro ⟨h1, h2⟩; exact ⟨(k - lo).toNat, List.mem_range.2 (by omega), by omega⟩
theorem zgc {l : List Int} (h : l.Nodup) {lo : Int} {n : Nat} (hl : ∀ x ∈ l, lo ≤ x ∧ x < lo + n) : l.length ≤ n := by
 have := h.length_le_of_subset (l₂ := (List.range n).map fun i : Nat => lo + i) fun x hx => upZ_mem.2 (hl x hx)
 rwa [List.length_map, List.length_range] at this
theorem zFe {α β : Type} {f : α → β} : ∀ {l : List α}, l.Nodup → (∀ a ∈ l, ∀ b ∈ l, f a = f b → a = b) → (l.map f).Nodup
 | [], _, _ => List.nodup_nil
 | a :: l, h, hi => by
  rw [List.nodup_cons] at h
  rw [List.map_cons, List.nodup_cons]
  refine ⟨fun hm => ?_, zFe h.2 fun x hx y hy => hi x (List.mem_cons_of_mem _ hx) y (List.mem_cons_of_mem _ hy)⟩
  obtain ⟨b, hb, e⟩ := List.mem_map.1 hm
  exact h.1 (by rw [← hi b (List.mem_cons_of_mem _ hb) a (List.mem_cons_self ..) e]; exact hb)
theorem z0n {α : Type} {p q : α → Bool} : ∀ {l : List α}, (∀ x ∈ l, p x = true → q x = true) → (∃ x ∈ l, q x = true ∧ p x = false) → l.countP p < l.countP q
 | [], _, ⟨x, h, _⟩ => by cases h
 | a :: l, h1, ⟨x, hx, h2, h3⟩ => by
  have hle : l.countP p ≤ l.countP q := List.countP_mono_left fun x hx => h1 x (List.mem_cons_of_mem _ hx)
  rw [List.countP_cons, List.countP_cons]
  rcases List.mem_cons.1 hx with rfl | hx
  ·rw [if_pos h2, if_neg (by rw [h3]; decide)]; omega
  ·have := z0n (fun x hx => h1 x (List.mem_cons_of_mem _ hx)) ⟨x, hx, h2, h3⟩
   by_cases hp : p a = true
   ·rw [if_pos hp, if_pos (h1 a (List.mem_cons_self ..) hp)]; omega
   ·rw [if_neg hp]; split <;> omega
abbrev KV := List (Int × Int)
section
variable {x y z k : Int} {m : KV}
theorem getSame : mget .int .int x (mput .int .int x y m) = some y := zDe (kt := .int) (vt := .int) zdb m
theorem getOther (h : z ≠ x) : mget .int .int z (mput .int .int x y m) = mget .int .int z m := zEe (kt := .int) (vt := .int) zdb h m
theorem putNew (h : mget .int .int x m = none) : mput .int .int x y m = m ++ [(x, y)] := z3h (kt := .int) (vt := .int) zdb m h
theorem putVals (h : mget .int .int x m = some k) : (k :: (mput .int .int x y m).map Prod.snd).Perm (y :: m.map Prod.snd) := zWn (kt := .int) (vt := .int) zdb m h
theorem getKey : x ∈ m.map Prod.fst ↔ ∃ k, mget .int .int x m = some k := zfc (kt := .int) (vt := .int) zdb m
theorem getMem (h : mget .int .int x m = some k) : (x, k) ∈ m := zYn (kt := .int) (vt := .int) zdb m h
theorem getOf (h : (m.map Prod.fst).Nodup) (h2 : (x, k) ∈ m) : mget .int .int x m = some k := mget_of (kt := .int) (vt := .int) zdb m h h2
theorem putNodup (h : (m.map Prod.fst).Nodup) : ((mput .int .int x y m).map Prod.fst).Nodup := zZn (kt := .int) (vt := .int) zdb h
theorem putMem : z ∈ (mput .int .int x y m).map Prod.fst ↔ z = x ∨ z ∈ m.map Prod.fst := zQj (kt := .int) (vt := .int) zdb m
end
def Ask (turn : Int) (a : KV) (n : Int) : Prop := mgetD .int .int n a = turn
structure AskOk (turn : Int) (a : KV) : Prop where
 nodup : (a.map Prod.fst).Nodup
 near : ∀ n ∈ a.map Prod.fst, -50 ≤ n ∧ n ≤ 50
 turns : ∀ n t : Int, mget .int .int n a = some t → 1 ≤ t ∧ t ≤ turn
structure ByOk (rows : List (List Int)) (m : KV) : Prop where
 nodup : (m.map Prod.fst).Nodup
 ok : ∀ n k : Int, mget .int .int n m = some k → 0 ≤ k ∧ k < rows.length ∧ n ∈ rows.getD k.toNat []
def left (turn : Int) (a : KV) : Nat := ((List.range 101).map fun i : Nat => (-50 : Int) + i).countP fun n => !decide (mgetD .int .int n a = turn)
instance {turn n : Int} {a : KV} : Decidable (Ask turn a n) := inferInstanceAs (Decidable (_ = _))
theorem z4h {turn n : Int} (a : KV) : Ask turn (mput .int .int n turn a) n := by rw [Ask, mgetD, getSame]; rfl
theorem zXx {turn n x : Int} {a : KV} (h : x ≠ n) : Ask turn (mput .int .int n turn a) x ↔ Ask turn a x := by rw [Ask, Ask, mgetD, mgetD, getOther h]
theorem ask_put {turn n x : Int} {a : KV} : Ask turn (mput .int .int n turn a) x ↔ x = n ∨ Ask turn a x := by
 by_cases h : x = n
 ·subst h; exact ⟨fun _ => .inl rfl, fun _ => z4h a⟩
 ·rw [zXx h]; exact ⟨.inr, fun h' => h'.resolve_left h⟩
theorem zYx {turn : Int} {a b : KV} (h : ∀ n, Ask turn a n → Ask turn b n) : left turn b ≤ left turn a :=
 List.countP_mono_left fun n _ hn => by
  simp only [Bool.not_eq_true', decide_eq_false_iff_not] at hn ⊢
  exact fun e => hn (h n e)
theorem left_lt {turn n : Int} {a : KV} (hn : -50 ≤ n ∧ n ≤ 50) (h : ¬Ask turn a n) : left turn (mput .int .int n turn a) < left turn a :=
 z0n (fun x _ hx => by
  simp only [Bool.not_eq_true', decide_eq_false_iff_not] at hx ⊢
  exact fun e => hx (ask_put.2 (.inr e))) ⟨n, upZ_mem.2 (by omega), by simp only [Bool.not_eq_true', decide_eq_false_iff_not]; exact h, by simp only [Bool.not_eq_false', decide_eq_true_iff]; exact z4h a⟩
theorem AskOk.put {turn n : Int} {a : KV} (h : AskOk turn a) (hn : -50 ≤ n ∧ n ≤ 50) (ht : 1 ≤ turn) : AskOk turn (mput .int .int n turn a) := by
 refine ⟨putNodup h.nodup, fun x hx => ?_, fun x t hx => ?_⟩
 ·rcases putMem.1 hx with rfl | hx
  ·exact hn
  ·exact h.near x hx
 ·by_cases e : x = n
  ·subst e; rw [getSame] at hx; cases hx; omega
  ·rw [getOther e] at hx; exact h.turns x t hx
theorem AskOk.length {turn : Int} {a : KV} (h : AskOk turn a) : a.length ≤ 101 := by
 have := zgc h.nodup (lo := -50) (n := 101) fun x hx => by have := h.near x hx; omega
 rwa [List.length_map] at this
theorem AskOk.none {turn : Int} {a : KV} (h : AskOk turn a) (h0 : 0 ≤ turn) {t : Int} (ht : turn < t) (n : Int) : ¬Ask t a n := by
 rw [Ask, mgetD]
 cases e : mget .int .int n a with
 | none => show ¬(0 : Int) = t; omega
 | some k =>
  intro (hh : (k : Int) = t)
  have h2 := h.turns n k e
  rw [hh] at h2; omega
theorem AskOk.later {turn : Int} {a : KV} (h : AskOk turn a) {t : Int} (ht : turn ≤ t) : AskOk t a := ⟨h.nodup, h.near, fun n k e => by have := h.turns n k e; omega⟩
theorem zZx : AskOk 0 [] := ⟨List.nodup_nil, fun n hn => (by cases hn), fun n t h => (by cases h)⟩
theorem z0x {rows : List (List Int)} : ByOk rows [] := ⟨List.nodup_nil, fun n t h => (by cases h)⟩
theorem ByOk.length {rows : List (List Int)} {m : KV} (h : ByOk rows m) (hr : ∀ r ∈ rows, ∀ n ∈ r, -50 ≤ n ∧ n ≤ 50) : m.length ≤ 101 := by
 have := zgc h.nodup (lo := -50) (n := 101) fun x hx => by
  obtain ⟨k, hk⟩ := getKey.1 hx
  obtain ⟨h1, h2, h3⟩ := h.ok x k hk
  have hl : k.toNat < rows.length := by omega
  rw [getD_at' _ hl] at h3
  have := hr _ (List.getElem_mem hl) x h3
  omega
 rwa [List.length_map] at this
structure Found (rows : List (List Int)) (turn i : Int) (m a m' a' : KV) : Prop where
 ok : ByOk rows m'
 ask : AskOk turn a'
 vals : (m'.map Prod.snd).Perm (i :: m.map Prod.snd)
 same : ∀ n : Int, Ask turn a n → mget .int .int n m' = mget .int .int n m
structure Tried (rows : List (List Int)) (turn : Int) (m a : KV) (pre : List Int) (a' : KV) : Prop where
 ask : AskOk turn a'
 more : ∀ n, Ask turn a n → Ask turn a' n
 row : ∀ n ∈ pre, Ask turn a' n
 closed : ∀ n, Ask turn a' n → Ask turn a n ∨ ∃ k : Int, mget .int .int n m = some k ∧ ∀ x ∈ rows.getD k.toNat [], Ask turn a' x
section
variable {rows : List (List Int)} {turn i k n : Int} {m a a1 a2 m2 : KV} {pre : List Int}
theorem ByOk.put (h : ByOk rows m) (hi : 0 ≤ i ∧ i < rows.length ∧ n ∈ rows.getD i.toNat []) : ByOk rows (mput .int .int n i m) := by
 refine ⟨putNodup h.nodup, fun x k hx => ?_⟩
 by_cases e : x = n
 ·subst e; rw [getSame] at hx; cases hx; exact hi
 ·rw [getOther e] at hx; exact h.ok x k hx
theorem z1x (h : ByOk rows m) (ha : AskOk turn a) (ht : 1 ≤ turn) (hn : -50 ≤ n ∧ n ≤ 50) (hi : 0 ≤ i ∧ i < rows.length ∧ n ∈ rows.getD i.toNat []) (hna : ¬Ask turn a n) (hm : mget .int .int n m = none) : Found rows turn i m a (mput .int .int n i m) (mput .int .int n turn a) := by
 refine ⟨h.put hi, ha.put hn ht, ?_, fun x hx => getOther (fun e => hna (by rw [← e]; exact hx))⟩
 rw [putNew hm, List.map_append]
 exact List.perm_append_comm
theorem z2x (hi : 0 ≤ i ∧ i < rows.length ∧ n ∈ rows.getD i.toNat []) (hna : ¬Ask turn a n) (hm : mget .int .int n m = some k) (h : Found rows turn k m (mput .int .int n turn a) m2 a2) : Found rows turn i m a (mput .int .int n i m2) a2 := by
 have h2 : mget .int .int n m2 = some k := (h.same n (z4h a)).trans hm
 refine ⟨h.ok.put hi, h.ask, ?_, fun x hx => ?_⟩
 ·have h3 := putVals (y := i) h2
  exact List.Perm.cons_inv (h3.trans ((h.vals.cons i).trans (List.Perm.swap _ _ _)))
 ·rw [getOther (fun e => hna (by rw [← e]; exact hx))]
  exact h.same x (ask_put.2 (.inr hx))
theorem Found.start (h : Found rows turn i m a1 m2 a2) (hm : ∀ n, Ask turn a n → Ask turn a1 n) : Found rows turn i m a m2 a2 := ⟨h.ok, h.ask, h.vals, fun n hn => h.same n (hm n hn)⟩
theorem z1n (h : AskOk turn a) : Tried rows turn m a [] a := ⟨h, fun _ h => h, fun n hn => (by cases hn), fun _ h => .inl h⟩
theorem z3x (h : Tried rows turn m a pre a1) (hn : Ask turn a1 n) : Tried rows turn m a (pre ++ [n]) a1 := ⟨h.ask, h.more, fun x hx => by
 rcases List.mem_append.1 hx with hx | hx
 ·exact h.row x hx
 ·rw [List.mem_singleton.1 hx]; exact hn, h.closed⟩
theorem z4x (h : Tried rows turn m a pre a1) (hm : mget .int .int n m = some k) (h2 : Tried rows turn m (mput .int .int n turn a1) (rows.getD k.toNat []) a2) : Tried rows turn m a (pre ++ [n]) a2 := by
 have up : ∀ x, Ask turn a1 x → Ask turn a2 x := fun x hx => h2.more x (ask_put.2 (.inr hx))
 refine ⟨h2.ask, fun x hx => up x (h.more x hx), fun x hx => ?_, fun x hx => ?_⟩
 ·rcases List.mem_append.1 hx with hx | hx
  ·exact up x (h.row x hx)
  ·rw [List.mem_singleton.1 hx]; exact h2.more n (z4h a1)
 ·rcases h2.closed x hx with h3 | h3
  ·rcases ask_put.1 h3 with rfl | h3
   ·exact .inr ⟨k, hm, h2.row⟩
   ·rcases h.closed x h3 with h4 | ⟨j, h4, h5⟩
    ·exact .inl h4
    ·exact .inr ⟨j, h4, fun y hy => up y (h5 y hy)⟩
  ·exact .inr h3
def upI (n : Nat) : List Int := (List.range n).map fun i : Nat => (i : Int)
theorem upI_mem {n : Nat} {k : Int} : k ∈ upI n ↔ 0 ≤ k ∧ k < n := by
 rw [upI, List.mem_map]
 constructor
 ·rintro ⟨i, hi, rfl⟩; have := List.mem_range.1 hi; omega
 ·rintro ⟨h1, h2⟩; exact ⟨k.toNat, List.mem_range.2 (by omega), by omega⟩
theorem z5x (n : Nat) : (upI n).Nodup := zFe List.nodup_range fun a _ b _ h => Int.ofNat.inj h
theorem z6x {n : Nat} : ((n : Int) :: upI n).Perm (upI (n + 1)) := by
 rw [upI, upI, List.range_succ, List.map_append]
 exact List.perm_append_comm (l₁ := [(n : Int)])
theorem z7x {i : Nat} {a' : KV} (h : ByOk rows m) (hv : (m.map Prod.snd).Perm (upI i)) (ha : ∀ n, ¬Ask turn a n) (ht : Tried rows turn m a (rows.getD i []) a') : ¬∃ σ : Nat → Int, (∀ j, j ≤ i → σ j ∈ rows.getD j []) ∧ ∀ j k, j ≤ i → k ≤ i → σ j = σ k → j = k := by
 rintro ⟨σ, h1, h2⟩
 let E := m.filter fun e => decide (Ask turn a' e.1)
 have hE : ∀ n, Ask turn a' n → n ∈ E.map Prod.fst := fun n hn => by
  rcases ht.closed n hn with h3 | ⟨k, h3, _⟩
  ·exact absurd h3 (ha n)
  ·exact List.mem_map.2 ⟨(n, k), List.mem_filter.2 ⟨getMem h3, decide_eq_true hn⟩, rfl⟩
 have hX : ∀ x ∈ E.map Prod.snd, 0 ≤ x ∧ x < (i : Int) := fun x hx => by
  obtain ⟨e, he, rfl⟩ := List.mem_map.1 hx
  exact upI_mem.1 (hv.subset (List.mem_map.2 ⟨e, (List.mem_filter.1 he).1, rfl⟩))
 have nd : ((i : Int) :: E.map Prod.snd).Nodup := by
  rw [List.nodup_cons]
  refine ⟨fun hx => by have := hX _ hx; omega, ?_⟩
  exact ((hv.nodup_iff.2 (z5x i))).sublist (List.filter_sublist.map Prod.snd)
 have nd2 : (((i : Int) :: E.map Prod.snd).map fun x => σ x.toNat).Nodup := zFe nd fun x hx y hy e => by
  have b : ∀ z, z ∈ ((i : Int) :: E.map Prod.snd) → 0 ≤ z ∧ z ≤ (i : Int) := fun z hz => by
   rcases List.mem_cons.1 hz with rfl | hz
   ·omega
   ·have := hX z hz; omega
  have := h2 x.toNat y.toNat (by have := b x hx; omega) (by have := b y hy; omega) e
  have := b x hx; have := b y hy; omega
 have sub : (((i : Int) :: E.map Prod.snd).map fun x => σ x.toNat) ⊆ E.map Prod.fst := fun y hy => by
  obtain ⟨x, hx, rfl⟩ := List.mem_map.1 hy
  refine hE _ ?_
  rcases List.mem_cons.1 hx with rfl | hx
  ·exact ht.row _ (h1 i (Nat.le_refl _))
  ·have hb := hX x hx
   obtain ⟨e, he, rfl⟩ := List.mem_map.1 hx
   obtain ⟨he1, he2⟩ := List.mem_filter.1 he
   have he2 := of_decide_eq_true he2
   rcases ht.closed e.1 he2 with h3 | ⟨k, h3, h4⟩
   ·exact absurd h3 (ha _)
   ·have := getOf h.nodup (show (e.1, e.2) ∈ m from he1)
    rw [h3] at this
    obtain rfl : k = e.2 := by cases this; rfl
    exact h4 _ (h1 _ (by omega))
 have := nd2.length_le_of_subset sub
 simp only [List.length_map, List.length_cons] at this
 omega
theorem z8x (h : ByOk rows m) (hv : (m.map Prod.snd).Perm (upI rows.length)) : ∃ σ : Nat → Int, (∀ j, j < rows.length → σ j ∈ rows.getD j []) ∧ ∀ j k, j < rows.length → k < rows.length → σ j = σ k → j = k := by
 have hx : ∀ j : Nat, j < rows.length → ∃ n, mget .int .int n m = some (j : Int) := fun j hj => by
  obtain ⟨e, he, h1⟩ := List.mem_map.1 (hv.symm.subset (upI_mem.2 (show 0 ≤ (j : Int) ∧ (j : Int) < rows.length by omega)))
  exact ⟨e.1, getOf h.nodup (by rw [← h1]; exact he)⟩
 refine ⟨fun j => if hj : j < rows.length then Classical.choose (hx j hj) else 0, fun j hj => ?_, fun j k hj hk e => ?_⟩
 ·simp only [dif_pos hj]
  have := h.ok _ _ (Classical.choose_spec (hx j hj))
  simpa using this.2.2
 ·simp only [dif_pos hj, dif_pos hk] at e
  have h1 := Classical.choose_spec (hx j hj)
  have h2 := Classical.choose_spec (hx k hk)
  rw [e, h2] at h1
  have : (k : Int) = j := by injection h1
  omega
end
end Go.Proofs.YtajnbkhgnppckaaGreatDoor
/- Sums: which values of a variable are part of a right sum. Choices, one number for each: plain laws, no program in sight. -/
namespace Go.Proofs.YtajnbkhgnppckaaGreatDoor
set_option linter.unusedVariables false
set_option linter.unusedSimpArgs false
theorem zRj {α : Type} (p : α → Bool) : ∀ (xs : List α) (i : Int), (ixI p xs i = -1 ∧ ∀ x ∈ xs, p x = false) ∨ ∃ (k : Nat) (h : k < xs.length), ixI p xs i = i + k ∧ p xs[k] = true ∧ ∀ (j : Nat) (hj : j < k), p (xs[j]'(by omega)) = false
 | [], i => .inl ⟨rfl, fun x hx => (by cases hx)⟩
 | x :: xs, i => by
  rw [ixI]
  cases e : p x
  ·rw [cond_false]
   rcases zRj p xs (i + 1) with ⟨h1, h2⟩ | ⟨k, h, h1, h2, h3⟩
   ·refine .inl ⟨h1, fun y hy => ?_⟩
    rcases List.mem_cons.1 hy with rfl | hy
    ·exact e
    ·exact h2 y hy
   ·refine .inr ⟨k + 1, by simpa using h, by rw [h1]; omega, by simpa using h2, fun j hj => ?_⟩
    cases j with
    | zero => exact e
    | succ j => simpa using h3 j (by omega)
  ·exact .inr ⟨0, Nat.zero_lt_succ _, by rw [cond_true]; omega, e, fun j hj => absurd hj (by omega)⟩
def addT : List TermD → Int → Int → List TermD
 | [], v, n => [⟨v, n⟩]
 | t :: r, v, n => if t.v = v then ⟨t.v, t.times + n⟩ :: r else t :: addT r v n
def termsZ (z : List (Int × Int)) : List TermD := z.foldl (fun o x => addT o x.1 x.2) []
def sumT (f : Int → Int) (ts : List TermD) : Int := (ts.map fun t => t.times * f t.v).sum
theorem zSj {f : Int → Int} : sumT f [] = 0 := rfl
theorem zeb {f : Int → Int} {t : TermD} {ts : List TermD} : sumT f (t :: ts) = t.times * f t.v + sumT f ts := by rw [sumT, List.map_cons, List.sum_cons]; rfl
theorem z2n {f : Int → Int} {ts us : List TermD} : sumT f (ts ++ us) = sumT f ts + sumT f us := by rw [sumT, List.map_append, List.sum_append]; rfl
theorem z3n {f : Int → Int} {v n : Int} : ∀ {o : List TermD}, sumT f (addT o v n) = sumT f o + n * f v
 | [] => by rw [addT, zeb, zSj]; simp
 | t :: r => by
  rw [addT]
  split
  ·rename_i h
   rw [zeb, zeb, Int.add_mul, h]; omega
  ·rw [zeb, zeb, z3n]; omega
theorem z4n {v n : Int} : ∀ {o : List TermD}, (∀ t ∈ o, t.v ≠ v) → addT o v n = o ++ [⟨v, n⟩]
 | [], _ => rfl
 | t :: r, h => by
  rw [addT, if_neg (h t (List.mem_cons_self ..)), z4n fun t ht => h t (List.mem_cons_of_mem _ ht)]; rfl
theorem z5n {v n : Int} : ∀ {o : List TermD} {k : Nat} (hk : k < o.length), o[k].v = v → (∀ (j : Nat) (hj : j < k), (o[j]'(by omega)).v ≠ v) → addT o v n = o.set k ⟨o[k].v, o[k].times + n⟩
 | [], k, hk, _, _ => absurd hk (Nat.not_lt_zero _)
 | t :: r, 0, _, h, _ => by rw [addT, if_pos (show t.v = v from h)]; rfl
 | t :: r, k + 1, hk, h, hj => by
  rw [addT, if_neg (show ¬t.v = v from hj 0 (Nat.zero_lt_succ _)), List.set_cons_succ, z5n (k := k) (by simpa using hk) (by simpa using h) fun j h2 => by simpa using hj (j + 1) (by omega)]
  rfl
theorem zTj {v n x : Int} : ∀ {o : List TermD}, (x ∈ (addT o v n).map TermD.v) ↔ x ∈ o.map TermD.v ∨ x = v
 | [] => by rw [addT]; simp
 | t :: r => by
  rw [addT]
  split
  ·rename_i h
   simp only [List.map_cons, List.mem_cons]
   exact ⟨fun e => .inl e, fun e => e.elim id fun e => .inl (e.trans h.symm)⟩
  ·simp only [List.map_cons, List.mem_cons]
   rw [zTj]
   exact ⟨fun e => e.elim (fun e => .inl (.inl e)) fun e => e.elim (fun e => .inl (.inr e)) .inr, fun e => e.elim (fun e => e.elim .inl fun e => .inr (.inl e)) fun e => .inr (.inr e)⟩
theorem z6n {v n : Int} : ∀ {o : List TermD}, (o.map TermD.v).Nodup → ((addT o v n).map TermD.v).Nodup
 | [], _ => by rw [addT]; simp
 | t :: r, h => by
  rw [addT]
  rw [List.map_cons, List.nodup_cons] at h
  split
  ·rw [List.map_cons, List.nodup_cons]; exact h
  ·rename_i hn
   rw [List.map_cons, List.nodup_cons]
   refine ⟨fun hm => ?_, z6n h.2⟩
   rcases zTj.1 hm with hm | hm
   ·exact h.1 hm
   ·exact hn hm
theorem z7n {v n : Int} : ∀ {o : List TermD}, (addT o v n).length ≤ o.length + 1
 | [] => by rw [addT]; simp
 | t :: r => by
  rw [addT]
  split
  ·simp
  ·have := z7n (v := v) (n := n) (o := r); simp; omega
theorem z8n {v n : Int} (hn : -1000 ≤ n ∧ n ≤ 1000) {b : Nat} : ∀ {o : List TermD}, (∀ t ∈ o, -1000 * (b : Int) ≤ t.times ∧ t.times ≤ 1000 * (b : Int)) → ∀ t ∈ addT o v n, -1000 * ((b + 1 : Nat) : Int) ≤ t.times ∧ t.times ≤ 1000 * ((b + 1 : Nat) : Int)
 | [], _, t, ht => by
  rw [addT, List.mem_singleton] at ht
  subst ht
  show -1000 * ((b + 1 : Nat) : Int) ≤ n ∧ n ≤ 1000 * ((b + 1 : Nat) : Int)
  omega
 | u :: r, h, t, ht => by
  rw [addT] at ht
  split at ht
  ·rcases List.mem_cons.1 ht with rfl | ht
   ·have := h u (List.mem_cons_self ..)
    show -1000 * ((b + 1 : Nat) : Int) ≤ u.times + n ∧ u.times + n ≤ 1000 * ((b + 1 : Nat) : Int)
    omega
   ·have := h t (List.mem_cons_of_mem _ ht); omega
  ·rcases List.mem_cons.1 ht with rfl | ht
   ·have := h _ (List.mem_cons_self ..); omega
   ·exact z8n hn (fun t ht => h t (List.mem_cons_of_mem _ ht)) t ht
theorem zod {z : List (Int × Int)} {x : Int × Int} : termsZ (z ++ [x]) = addT (termsZ z) x.1 x.2 := by rw [termsZ, List.foldl_append]; rfl
theorem zrb {α : Type} {C : List α → Prop} (h0 : C []) (h1 : ∀ l a, C l → C (l ++ [a])) (l : List α) : C l := by
 have : ∀ n (l : List α), l.length = n → C l := fun n => by
  induction n with
  | zero => exact fun l hl => by rw [List.length_eq_zero_iff.1 hl]; exact h0
  | succ n ih =>
   intro l hl
   have hn : l ≠ [] := fun e => by rw [e] at hl; cases hl
   rw [← List.dropLast_concat_getLast hn]
   exact h1 _ _ (ih _ (by rw [List.length_dropLast]; omega))
 exact this _ l rfl
theorem zUj (z : List (Int × Int)) : ((termsZ z).map TermD.v).Nodup :=
 zrb (C := fun z => ((termsZ z).map TermD.v).Nodup) List.nodup_nil (fun l a h => by rw [zod]; exact z6n h) z
theorem z9n {x : Int} (z : List (Int × Int)) : (x ∈ (termsZ z).map TermD.v) ↔ x ∈ z.map Prod.fst :=
 zrb (C := fun z => (x ∈ (termsZ z).map TermD.v) ↔ x ∈ z.map Prod.fst) (by simp [termsZ]) (fun l a h => by rw [zod, zTj, h, List.map_append, List.mem_append]; simp) z
theorem zao (z : List (Int × Int)) : (termsZ z).length ≤ z.length :=
 zrb (C := fun z => (termsZ z).length ≤ z.length) (Nat.le_refl _) (fun l a h => by rw [zod, List.length_append]; exact Nat.le_trans z7n (Nat.succ_le_succ h)) z
theorem zbo (z : List (Int × Int)) : (∀ x ∈ z, -1000 ≤ x.2 ∧ x.2 ≤ 1000) → ∀ t ∈ termsZ z, -1000 * (z.length : Int) ≤ t.times ∧ t.times ≤ 1000 * (z.length : Int) :=
 zrb (C := fun z => (∀ x ∈ z, -1000 ≤ x.2 ∧ x.2 ≤ 1000) → ∀ t ∈ termsZ z, -1000 * (z.length : Int) ≤ t.times ∧ t.times ≤ 1000 * (z.length : Int)) (fun _ t ht => (by cases ht)) (fun l a h hz t ht => by
  rw [zod] at ht
  rw [List.length_append]
  exact z8n (hz a (by simp)) (h fun x hx => hz x (by simp [hx])) t ht) z
theorem z9x {f : Int → Int} (z : List (Int × Int)) : sumT f (termsZ z) = (z.map fun x => x.2 * f x.1).sum :=
 zrb (C := fun z => sumT f (termsZ z) = (z.map fun x => x.2 * f x.1).sum) rfl (fun l a h => by rw [zod, z3n, h, List.map_append, List.sum_append]; simp) z
def termsC (c : ConD) : List TermD := termsZ (c.vars.zip c.consts)
theorem zco : ∀ (ks vs : List Int) (f : Int → Int), sumZ (ks.zip (vs.map f)) = ((vs.zip ks).map fun x => x.2 * f x.1).sum
 | [], vs, f => by cases vs <;> rfl
 | k :: ks, [], f => rfl
 | k :: ks, v :: vs, f => by
  rw [List.map_cons, List.zip_cons_cons, List.zip_cons_cons, sumZ, List.map_cons, List.sum_cons, List.map_cons, List.sum_cons, ← zco ks vs f]; rfl
theorem zay {c : ConD} {vs : List Int} : sumT (fun v => vs.getD v.toNat 0) (termsC c) = sumZ (c.consts.zip (valsC c vs)) := by
 rw [termsC, z9x, valsC, zco]
def SumOf (ts : List TermD) (s : List (List Int)) (x : Int) : Prop := ∃ vs, InS vs s ∧ x = sumT (fun v => vs.getD v.toNat 0) ts
theorem zby {s : List (List Int)} (hf : failS s = false) {x : Int} : SumOf [] s x ↔ x = 0 := by
 constructor
 ·rintro ⟨vs, _, h⟩; exact h
 ·intro h
  obtain ⟨vs, hv⟩ := zze hf
  exact ⟨vs, hv, h⟩
theorem zdo {f g : Int → Int} : ∀ {ts : List TermD}, (∀ t ∈ ts, f t.v = g t.v) → sumT f ts = sumT g ts
 | [], _ => rfl
 | t :: ts, h => by rw [zeb, zeb, h t (List.mem_cons_self ..), zdo fun t ht => h t (List.mem_cons_of_mem _ ht)]
theorem zeo {ts : List TermD} {vs : List Int} {v n : Int} (hv : 0 ≤ v) (hl : v.toNat < vs.length) (hts : ∀ t ∈ ts, 0 ≤ t.v) (hn : v ∉ ts.map TermD.v) : sumT (fun u => (vs.set v.toNat n).getD u.toNat 0) ts = sumT (fun u => vs.getD u.toNat 0) ts :=
 zdo fun t ht => by
  have h1 := hts t ht
  rw [zk hl, if_neg]
  intro e
  exact hn (List.mem_map.2 ⟨t, ht, by omega⟩)
theorem zcy {ts : List TermD} {t : TermD} {s : List (List Int)} (ht : 0 ≤ t.v) (hl : t.v.toNat < s.length) (hts : ∀ t ∈ ts, 0 ≤ t.v) (hn : t.v ∉ ts.map TermD.v) {x : Int} : SumOf (ts ++ [t]) s x ↔ ∃ a, SumOf ts s a ∧ ∃ n ∈ s.getD t.v.toNat [], x = a + t.times * n := by
 constructor
 ·rintro ⟨vs, hv, rfl⟩
  refine ⟨_, ⟨vs, hv, rfl⟩, vs.getD t.v.toNat 0, hv.2 _ hl, ?_⟩
  rw [z2n, zeb, zSj, Int.add_zero]
 ·rintro ⟨a, ⟨vs, hv, rfl⟩, n, hm, rfl⟩
  have hl2 : t.v.toNat < vs.length := by rw [hv.1]; exact hl
  refine ⟨vs.set t.v.toNat n, hv.set hm hl, ?_⟩
  rw [z2n, zeb, zSj, Int.add_zero, zeo ht hl2 hts hn, zk hl2, if_pos rfl]
def okSum (c : ConD) (n : Int) : Bool := if c.kind = 1 then decide (n ≤ c.n) else if c.kind = 2 then decide (n = c.n) else !decide (n = c.n)
theorem zfo {c : ConD} (h : 1 ≤ c.kind ∧ c.kind ≤ 3) {vs : List Int} : trueC c vs = okSum c (sumT (fun v => vs.getD v.toNat 0) (termsC c)) := by
 rw [zay, trueC, okSum]
 have : c.kind = 1 ∨ c.kind = 2 ∨ c.kind = 3 := by omega
 rcases this with e | e | e <;> simp [e]
theorem zVj {f : Int → Int} : ∀ {ts : List TermD} {i : Nat} (hi : i < ts.length), sumT f ts = sumT f (ts.eraseIdx i) + ts[i].times * f ts[i].v
 | [], i, hi => absurd hi (Nat.not_lt_zero _)
 | t :: ts, 0, _ => by rw [List.eraseIdx_cons_zero, zeb, Int.add_comm]; rfl
 | t :: ts, i + 1, hi => by
  rw [List.eraseIdx_cons_succ, zeb, zeb, zVj (i := i) (by simpa using hi)]
  simp only [List.getElem_cons_succ]; omega
theorem zgo {α : Type} : ∀ {l : List α} {i : Nat} (hi : i < l.length), l.Nodup → l[i] ∉ l.eraseIdx i
 | [], i, hi, _ => absurd hi (Nat.not_lt_zero _)
 | a :: l, 0, _, h => by rw [List.eraseIdx_cons_zero]; exact (List.nodup_cons.1 h).1
 | a :: l, i + 1, hi, h => by
  rw [List.nodup_cons] at h
  rw [List.eraseIdx_cons_succ, List.mem_cons]
  simp only [List.getElem_cons_succ]
  rintro (e | e)
  ·exact h.1 (e ▸ List.getElem_mem (by simpa using hi))
  ·exact zgo (by simpa using hi) h.2 e
theorem zho {α β : Type} {f : α → β} : ∀ {l : List α} {i : Nat}, (l.map f).eraseIdx i = (l.eraseIdx i).map f
 | [], _ => rfl
 | a :: l, 0 => rfl
 | a :: l, i + 1 => by rw [List.map_cons, List.eraseIdx_cons_succ, List.eraseIdx_cons_succ, List.map_cons, zho]
theorem zWj {c : ConD} {nv : Nat} (hc : RightC c nv) : ∀ t ∈ termsC c, 0 ≤ t.v ∧ t.v < nv := fun t ht => by
 have := (z9n (x := t.v) (c.vars.zip c.consts)).1 (List.mem_map.2 ⟨t, ht, rfl⟩)
 obtain ⟨x, hx, e⟩ := List.mem_map.1 this
 exact hc.vars t.v (by rw [← e]; exact (List.of_mem_zip hx).1)
theorem sum_may {c : ConD} {s : List (List Int)} (hc : RightC c s.length) (hk : c.kind ≤ 3) {i : Nat} (hi : i < (termsC c).length) {n : Int} (hn : n ∈ s.getD (termsC c)[i].v.toNat []) :
  May (trueC c) s (termsC c)[i].v.toNat n ↔ ∃ a, SumOf ((termsC c).eraseIdx i) s a ∧ okSum c (a + (termsC c)[i].times * n) = true := by
 have hk1 := hc.kind.1
 have hv := zWj hc
 have h1 := hv _ (List.getElem_mem hi)
 have hl : (termsC c)[i].v.toNat < s.length := by omega
 have hne : (termsC c)[i].v ∉ ((termsC c).eraseIdx i).map TermD.v := by
  have := zgo (l := (termsC c).map TermD.v) (i := i) (by rw [List.length_map]; exact hi) (zUj _)
  rw [List.getElem_map] at this
  rwa [zho] at this
 constructor
 ·rintro ⟨vs, h2, h3, h4⟩
  refine ⟨_, ⟨vs, h2, rfl⟩, ?_⟩
  rw [zfo ⟨hk1, hk⟩, zVj hi, h3] at h4
  exact h4
 ·rintro ⟨a, ⟨vs, h2, rfl⟩, h4⟩
  have hl2 : (termsC c)[i].v.toNat < vs.length := by rw [h2.1]; exact hl
  refine ⟨vs.set (termsC c)[i].v.toNat n, h2.set hn hl, by rw [zk hl2, if_pos rfl], ?_⟩
  rw [zfo ⟨hk1, hk⟩, zVj hi, zeo h1.1 hl2 (fun t ht => (hv t (List.mem_of_mem_eraseIdx ht)).1) hne, zk hl2, if_pos rfl]
  exact h4
theorem zdy {α : Type} {l : List α} {i k : Nat} (hk : k < l.length) : (l.take (k + 1)).eraseIdx i = if k = i then (l.take k).eraseIdx i else (l.take k).eraseIdx i ++ [l[k]] := by
 have hl : (l.take k).length = k := by rw [List.length_take]; omega
 rw [← List.take_append_getElem hk]
 split
 ·rename_i e
  subst e
  rw [List.eraseIdx_append_of_length_le (by omega), hl, Nat.sub_self, List.eraseIdx_cons_zero, List.append_nil, List.eraseIdx_of_length_le (by omega)]
 ·rename_i e
  by_cases h : k < i
  ·rw [List.eraseIdx_of_length_le (l := l.take k) (by omega), List.eraseIdx_of_length_le (by rw [List.length_append, hl]; simp; omega)]
  ·rw [List.eraseIdx_append_of_lt_length (by omega)]
def chosenV (s : List (List Int)) : List Int → List Int → Nat → List Int × Nat
 | [], vs, n => (vs, n)
 | v :: r, vs, n => chosenV s r (vs.set v.toNat ((s.getD v.toNat []).getD (n % (s.getD v.toNat []).length) 0)) (n / (s.getD v.toNat []).length)
def prodS (s : List (List Int)) : List Int → Nat
 | [] => 1
 | v :: r => (s.getD v.toNat []).length * prodS s r
theorem zio {s : List (List Int)} : ∀ (r vs : List Int) (n : Nat), (chosenV s r vs n).2 = n / prodS s r
 | [], vs, n => by rw [chosenV, prodS, Nat.div_one]
 | v :: r, vs, n => by rw [chosenV, zio r, prodS, Nat.div_div_eq_div_mul]
theorem zXj {s : List (List Int)} : ∀ (r vs : List Int) (n : Nat), (chosenV s r vs n).1.length = vs.length
 | [], vs, n => rfl
 | v :: r, vs, n => by rw [chosenV, zXj r, List.length_set]
theorem zpd {s : List (List Int)} {u : Nat} : ∀ (r vs : List Int) (n : Nat), (∀ v ∈ r, v.toNat ≠ u) → (chosenV s r vs n).1.getD u 0 = vs.getD u 0
 | [], vs, n, _ => rfl
 | v :: r, vs, n, h => by
  rw [chosenV, zpd r _ _ fun v hv => h v (List.mem_cons_of_mem _ hv), List.getD_eq_getElem?_getD, List.getElem?_set_ne (h v (List.mem_cons_self ..)), ← List.getD_eq_getElem?_getD]
theorem zjo {s : List (List Int)} : ∀ (r vs : List Int) (n : Nat), r.Nodup → (∀ v ∈ r, 0 ≤ v ∧ v.toNat < vs.length ∧ s.getD v.toNat [] ≠ []) → ∀ v ∈ r, (chosenV s r vs n).1.getD v.toNat 0 ∈ s.getD v.toNat []
 | [], vs, n, _, _, v, hv => by cases hv
 | u :: r, vs, n, hd, h, v, hv => by
  rw [List.nodup_cons] at hd
  have hu := h u (List.mem_cons_self ..)
  rw [chosenV]
  rcases List.mem_cons.1 hv with rfl | hv
  ·rw [zpd r _ _ fun w hw => ?_, zk hu.2.1, if_pos rfl]
   ·have hp : 0 < (s.getD v.toNat []).length := List.length_pos_iff.2 hu.2.2
    have hm := Nat.mod_lt n hp
    rw [getD_at _ hm]; exact List.getElem_mem hm
   ·have h1 := (h w (List.mem_cons_of_mem _ hw)).1
    intro e
    exact hd.1 (by rw [show v = w by omega]; exact hw)
  ·exact zjo r _ _ hd.2 (fun w hw => by rw [List.length_set]; exact h w (List.mem_cons_of_mem _ hw)) v hv
theorem zko {s : List (List Int)} {us : List Int} : ∀ (r : List Int), r.Nodup → ∀ (vs : List Int), (∀ v ∈ r, 0 ≤ v ∧ v.toNat < vs.length ∧ us.getD v.toNat 0 ∈ s.getD v.toNat []) → ∃ n, n < prodS s r ∧ ∀ v ∈ r, (chosenV s r vs n).1.getD v.toNat 0 = us.getD v.toNat 0
 | [], _, vs, _ => ⟨0, Nat.one_pos, fun v hv => (by cases hv)⟩
 | u :: r, hd, vs, h => by
  rw [List.nodup_cons] at hd
  have hu := h u (List.mem_cons_self ..)
  obtain ⟨d, hd1, hd2⟩ := List.getElem_of_mem hu.2.2
  obtain ⟨n, hn1, hn2⟩ := zko r hd.2 (vs.set u.toNat (us.getD u.toNat 0)) fun v hv => by rw [List.length_set]; exact h v (List.mem_cons_of_mem _ hv)
  have hp : 0 < (s.getD u.toNat []).length := by omega
  have e1 : (d + (s.getD u.toNat []).length * n) % (s.getD u.toNat []).length = d := by rw [Nat.add_mul_mod_self_left, Nat.mod_eq_of_lt hd1]
  have e2 : (d + (s.getD u.toNat []).length * n) / (s.getD u.toNat []).length = n := by rw [Nat.add_mul_div_left _ _ hp, Nat.div_eq_of_lt hd1, Nat.zero_add]
  refine ⟨d + (s.getD u.toNat []).length * n, ?_, fun v hv => ?_⟩
  ·rw [prodS]
   have : (s.getD u.toNat []).length * (n + 1) ≤ (s.getD u.toNat []).length * prodS s r := Nat.mul_le_mul_left _ hn1
   rw [Nat.mul_add, Nat.mul_one] at this
   omega
  ·rw [chosenV, e1, e2, getD_at _ hd1, hd2]
   rcases List.mem_cons.1 hv with rfl | hv
   ·rw [zpd r _ _ fun w hw => ?_, zk hu.2.1, if_pos rfl]
    have h1 := (h w (List.mem_cons_of_mem _ hw)).1
    intro e
    exact hd.1 (by rw [show v = w by omega]; exact hw)
   ·exact hn2 v hv
theorem zlo {s : List (List Int)} : ∀ (r : List Int), (∀ v ∈ r, s.getD v.toNat [] ≠ []) → 0 < prodS s r
 | [], _ => Nat.one_pos
 | v :: r, h => Nat.mul_pos (List.length_pos_iff.2 (h v (List.mem_cons_self ..))) (zlo r fun v hv => h v (List.mem_cons_of_mem _ hv))
theorem zmo {s : List (List Int)} {b : Nat} (hb : ∀ v : Nat, (s.getD v []).length ≤ b) : ∀ (r : List Int), prodS s r ≤ b ^ r.length
 | [] => Nat.le_refl _
 | v :: r => by rw [prodS, List.length_cons, Nat.pow_succ, Nat.mul_comm (b ^ _)]; exact Nat.mul_le_mul (hb _) (zmo hb r)
end Go.Proofs.YtajnbkhgnppckaaGreatDoor
/- Going through all values of some variables: what is part of values of which a constraint holds. Plain laws, no program in sight. -/
namespace Go.Proofs.YtajnbkhgnppckaaGreatDoor
set_option linter.unusedVariables false
set_option linter.unusedSimpArgs false
def Part (c : ConD) (s : List (List Int)) (all : List Int) (r vs : List Int) (x : Int × Int) : Prop :=
 ∃ us : List Int, us.length = vs.length ∧ (∀ u : Nat, (∀ v ∈ r, v.toNat ≠ u) → us.getD u 0 = vs.getD u 0) ∧ (∀ v ∈ r, us.getD v.toNat 0 ∈ s.getD v.toNat []) ∧ trueC c us = true ∧ ∃ v ∈ all, x = (v, us.getD v.toNat 0)
section
variable {c : ConD} {s : List (List Int)} {all r vs ws : List Int} {x : Int × Int}
theorem zey : Part c s all [] vs x ↔ trueC c vs = true ∧ ∃ v ∈ all, x = (v, vs.getD v.toNat 0) := by
 constructor
 ·rintro ⟨us, h1, h2, _, h3, h4⟩
  obtain rfl : us = vs := zxe (d := 0) h1 fun u => h2 u fun v hv => by cases hv
  exact ⟨h3, h4⟩
 ·rintro ⟨h3, h4⟩
  exact ⟨vs, rfl, fun _ _ => rfl, fun v hv => (by cases hv), h3, h4⟩
theorem zfy (hl : ws.length = vs.length) (h : ∀ u : Nat, (∀ v ∈ r, v.toNat ≠ u) → ws.getD u 0 = vs.getD u 0) : Part c s all r ws x ↔ Part c s all r vs x := by
 constructor
 ·rintro ⟨us, h1, h2, h3⟩; exact ⟨us, h1.trans hl, fun u hu => (h2 u hu).trans (h u hu), h3⟩
 ·rintro ⟨us, h1, h2, h3⟩; exact ⟨us, h1.trans hl.symm, fun u hu => (h2 u hu).trans (h u hu).symm, h3⟩
theorem zgy {v : Int} (hv : 0 ≤ v) (hl : v.toNat < vs.length) (hr : ∀ u ∈ r, 0 ≤ u) (hn : v ∉ r) : Part c s all (v :: r) vs x ↔ ∃ n ∈ s.getD v.toNat [], Part c s all r (vs.set v.toNat n) x := by
 have hne : ∀ u ∈ r, u.toNat ≠ v.toNat := fun u hu e => hn (by have := hr u hu; rw [show v = u by omega]; exact hu)
 constructor
 ·rintro ⟨us, h1, h2, h3, h4⟩
  refine ⟨_, h3 v (List.mem_cons_self ..), us, by rw [List.length_set]; exact h1, fun u hu => ?_, fun u hu => h3 u (List.mem_cons_of_mem _ hu), h4⟩
  rw [zk hl]
  split
  ·rename_i e; rw [e]
  ·rename_i e
   refine h2 u fun w hw => ?_
   rcases List.mem_cons.1 hw with rfl | hw
   ·exact fun e2 => e e2.symm
   ·exact hu w hw
 ·rintro ⟨n, hn2, us, h1, h2, h3, h4⟩
  have e : us.getD v.toNat 0 = n := by rw [h2 v.toNat hne, zk hl, if_pos rfl]
  refine ⟨us, by rw [List.length_set] at h1; exact h1, fun u hu => ?_, fun u hu => ?_, h4⟩
  ·rw [h2 u fun w hw => hu w (List.mem_cons_of_mem _ hw), zk hl, if_neg fun e => hu v (List.mem_cons_self ..) e.symm]
  ·rcases List.mem_cons.1 hu with rfl | hu
   ·rw [e]; exact hn2
   ·exact h3 u hu
end
theorem z5h {n u : Nat} {f : Nat → Int} (h : u < n) : ((List.range n).map f).getD u 0 = f u := by
 rw [getD_at _ (show u < ((List.range n).map f).length by simpa using h)]; simp
theorem zsb {c : ConD} {nv : Nat} : ∀ v ∈ scopeC c nv, 0 ≤ v ∧ v < nv := fun v hv => (zM.1 hv).1
theorem zYj {c : ConD} {s : List (List Int)} (hc : RightC c s.length) (hf : failS s = false) {ws : List Int} (hw : ws.length = s.length) {v n : Int} :
  Part c s (scopeC c s.length) (scopeC c s.length) ws (v, n) ↔ v ∈ scopeC c s.length ∧ May (trueC c) s v.toNat n := by
 constructor
 ·rintro ⟨us, h1, h2, h3, h4, u, hu, e⟩
  obtain ⟨rfl, rfl⟩ : v = u ∧ n = us.getD u.toNat 0 := by cases e; exact ⟨rfl, rfl⟩
  refine ⟨hu, ?_⟩
  obtain ⟨ps, hp⟩ := zze hf
  have hg : ∀ u : Nat, u < s.length → ((List.range s.length).map fun u : Nat => if (u : Int) ∈ scopeC c s.length then us.getD u 0 else ps.getD u 0).getD u 0 = if (u : Int) ∈ scopeC c s.length then us.getD u 0 else ps.getD u 0 := fun u hu => z5h hu
  have hv := zsb v hu
  refine ⟨(List.range s.length).map fun u : Nat => if (u : Int) ∈ scopeC c s.length then us.getD u 0 else ps.getD u 0, ⟨by simp, fun u hu => ?_⟩, ?_, ?_⟩
  ·rw [hg u hu]
   split
   ·rename_i e; simpa using h3 u e
   ·exact hp.2 u hu
  ·rw [hg _ (by omega), if_pos (by rw [Int.toNat_of_nonneg hv.1]; exact hu)]
  ·rw [← h4]
   exact zqb hc fun w h5 h6 => by rw [hg w h5, if_pos (zM.2 ⟨by omega, h6⟩)]
 ·rintro ⟨hv, vs, h1, h2, h3⟩
  have hg : ∀ u : Nat, u < s.length → ((List.range s.length).map fun u : Nat => if (u : Int) ∈ scopeC c s.length then vs.getD u 0 else ws.getD u 0).getD u 0 = if (u : Int) ∈ scopeC c s.length then vs.getD u 0 else ws.getD u 0 := fun u hu => z5h hu
  have hv2 := zsb v hv
  refine ⟨(List.range s.length).map fun u : Nat => if (u : Int) ∈ scopeC c s.length then vs.getD u 0 else ws.getD u 0, by simp [hw], fun u hu => ?_, fun u hu => ?_, ?_, v, hv, ?_⟩
  ·by_cases hl : u < s.length
   ·rw [hg u hl, if_neg fun e => hu _ e (by omega)]
   ·rw [zj (by simp; omega), zj (by omega)]
  ·have := zsb u hu
   rw [hg _ (by omega), if_pos (by rw [Int.toNat_of_nonneg this.1]; exact hu)]
   exact h1.2 _ (by omega)
  ·rw [← h3]
   exact zqb hc fun w h5 h6 => by rw [hg w h5, if_pos (zM.2 ⟨by omega, h6⟩)]
  ·rw [hg _ (by omega), if_pos (by rw [Int.toNat_of_nonneg hv2.1]; exact hv), h2]
theorem zZj (lo : Int) : ∀ n, (upL lo n).Nodup
 | 0 => List.nodup_nil
 | n + 1 => by
  rw [upL, List.nodup_append]
  refine ⟨zZj lo n, by simp, fun a ha b hb => ?_⟩
  have h1 := upL_mem.1 ha
  rw [List.mem_singleton] at hb
  omega
theorem zGe {c : ConD} {nv : Nat} : (scopeC c nv).Nodup := (zZj 0 nv).sublist List.filter_sublist
theorem zno {c : ConD} {s : List (List Int)} (hc : RightC c s.length) (hf : failS s = false) {ws : List Int} (hw : ws.length = s.length) {x : Int × Int} :
  Part c s (scopeC c s.length) (scopeC c s.length) ws x ↔ ∃ n, n < prodS s (scopeC c s.length) ∧ trueC c (chosenV s (scopeC c s.length) ws n).1 = true ∧ ∃ v ∈ scopeC c s.length, x = (v, (chosenV s (scopeC c s.length) ws n).1.getD v.toNat 0) := by
 have hne : ∀ v ∈ scopeC c s.length, 0 ≤ v ∧ v.toNat < ws.length ∧ s.getD v.toNat [] ≠ [] := fun v hv => by
  have h := zsb v hv
  exact ⟨h.1, by omega, zy.1 hf _ (by omega)⟩
 constructor
 ·rintro ⟨us, h1, h2, h3, h4, v, hv, rfl⟩
  obtain ⟨n, hn1, hn2⟩ := zko (s := s) (us := us) _ zGe ws fun v hv => ⟨(hne v hv).1, (hne v hv).2.1, h3 v hv⟩
  refine ⟨n, hn1, ?_, v, hv, by rw [hn2 v hv]⟩
  rw [← h4]
  refine zqb hc fun u h5 h6 => ?_
  have := hn2 (u : Int) (zM.2 ⟨by omega, h6⟩)
  simpa using this
 ·rintro ⟨n, hn1, hn2, v, hv, rfl⟩
  exact ⟨_, zXj _ _ _, fun u hu => zpd _ _ _ hu, fun v hv => zjo _ _ _ zGe hne v hv, hn2, v, hv, rfl⟩
theorem zoo {s : List (List Int)} : ∀ (r : List Int) (vs ws : List Int) (n : Nat), vs.length = ws.length → ∀ v ∈ r, v.toNat < ws.length → (chosenV s r vs n).1.getD v.toNat 0 = (chosenV s r ws n).1.getD v.toNat 0
 | [], vs, ws, n, _, v, hv, _ => by cases hv
 | u :: r, vs, ws, n, hl, v, hv, hlt => by
  rw [chosenV, chosenV]
  by_cases hm : ∃ w ∈ r, w.toNat = v.toNat
  ·obtain ⟨w, hw, e⟩ := hm
   rw [← e]
   exact zoo r _ _ _ (by rw [List.length_set, List.length_set, hl]) w hw (by rw [List.length_set]; omega)
  ·have hn : ∀ w ∈ r, w.toNat ≠ v.toNat := fun w hw e => hm ⟨w, hw, e⟩
   rw [zpd r _ _ hn, zpd r _ _ hn]
   rcases List.mem_cons.1 hv with rfl | hv
   ·rw [zk (by omega), zk hlt, if_pos rfl, if_pos rfl]
   ·exact absurd rfl (hn v hv)
end Go.Proofs.YtajnbkhgnppckaaGreatDoor
