/- What the document says of clauses: the same as the program does. -/
import Derived.Test.YtajnbkhgnppckaaGreatDoorPClause2
import Derived.Test.YtajnbkhgnppckaaGreatDoorPModel1
namespace Go.Proofs.YtajnbkhgnppckaaGreatDoor
open Go.RowKit
set_option linter.unusedVariables false
set_option linter.unusedSimpArgs false
theorem zPn {m : MdlD} (h : checkM m = 0) (c : List LitD) : Sat Tryz.prog zQd [dM m, .sl .lit c] (dI (clauseE m.vars.length c)) :=
 zVu m c fun ok => by
  rw [zUu]
  refine za (fun e => ?_) fun e => ?_
  ·exact dI_of (if_pos (by simp at e; omega))
  have e : ¬40 < c.length := by simp at e; omega
  rw [show clauseE m.vars.length c = firstE (fun _ l => litE m.vars.length l) 0 c from if_neg e]
  refine err0 (I := fun n v => zuh m c _ n v) c (fun _ l => litE m.vars.length l) (by omega) (X := fun x => D.int .i64 x = dI (firstE (fun _ l => litE m.vars.length l) 0 c)) (Y := D.int .i64 0 = dI (firstE (fun _ l => litE m.vars.length l) 0 c)) (fun _ => rfl) (fun e => dI_of e) (fun n k hk _ hX hn => ?_) fun n hY => ?_
  ·rw [zKm, sel_lt hk, at_nat (t := .lit) hk]
   exact ⟨inb_nat hk, call1 (zgx h) (za (fun e => hX (zE e)) fun e => hn (zr e))⟩
  ·rw [zKm, sel_end]; exact hY
theorem zGj {s : List (List Int)} (hs : s.length ≤ 5000000000000) : Sat Tryz.prog z8b [dI s.length] (dS (noneS s)) :=
 zEv _ fun ok => by
  rw [zDv]
  refine up (I := fun n v a => zEh (s.length : Int) _ n v a) 0 s.length rfl (Nat.zero_le _) (by omega) (fun k a => a = List.replicate k []) rfl fun n k a _ hk ha hn => ?_
  subst ha
  rw [zCv]
  by_cases h : k < s.length
  ·rw [sel_lt h]
   refine ⟨room_of (t := .list .int) ?_, hn h _ ?_⟩
   ·rw [List.length_replicate]; show (_ + 1) * 24 ≤ _; omega
   ·rw [List.replicate_succ']
  ·have hk' : k = s.length := by omega
   subst hk'
   rw [sel_end]; rfl
def liveV (s : List (List Int)) (c : List LitD) : List Int := (c.filter fun l => decide (0 ≤ toldL s l)).map fun l => l.var
theorem zQn {s : List (List Int)} {l : LitD} {ls : List LitD} (h : toldL s l < 0) : liveV s (l :: ls) = liveV s ls := by
 rw [liveV, List.filter_cons_of_neg (by rw [decide_eq_true_iff]; omega)]; rfl
theorem zRn {s : List (List Int)} {l : LitD} {ls : List LitD} (h : ¬toldL s l < 0) : liveV s (l :: ls) = l.var :: liveV s ls := by
 rw [liveV, List.filter_cons_of_pos (by rw [decide_eq_true_iff]; omega)]; rfl
theorem zHj {s : List (List Int)} {c : List LitD} {v : Int} (hv : 0 ≤ v) : ∀ ls : List LitD, putC s c ls v = if (liveV s ls).all (fun u => decide (u = v)) = true then keepC s c v else s
 | [] => by rw [putC, if_neg (by omega)]; rfl
 | l :: ls => by
  rw [putC]
  by_cases h : toldL s l < 0
  ·rw [if_pos h, zQn h, zHj hv ls]
  ·rw [if_neg h, zRn h, List.all_cons]
   by_cases e : l.var = v
   ·rw [if_neg (fun x => x.2 e.symm), e, zHj hv ls, decide_eq_true rfl, Bool.true_and]
   ·rw [if_pos ⟨hv, fun x => e x.symm⟩, decide_eq_false e, Bool.false_and, if_neg (by decide)]
theorem z0h {s : List (List Int)} {c : List LitD} : ∀ ls : List LitD, (∀ l ∈ ls, 0 ≤ l.var) → putC s c ls (-1) = match liveV s ls with | [] => noneS s | v :: vs => if vs.all (fun u => decide (u = v)) = true then keepC s c v else s
 | [], _ => by rw [putC, if_pos (by decide)]; rfl
 | l :: ls, hl => by
  rw [putC]
  by_cases h : toldL s l < 0
  ·rw [if_pos h, zQn h, z0h ls fun l hl' => hl l (List.mem_cons_of_mem _ hl')]
  ·rw [if_neg h, zRn h, if_neg (by omega), zHj (hl l (List.mem_cons_self ..)) ls]
theorem zQx {s : List (List Int)} {c : List LitD} (hc : ∀ l ∈ c, 0 ≤ l.var ∧ l.var < s.length) : ∀ v ∈ liveV s c, 0 ≤ v ∧ v < s.length := fun v hv => by
 obtain ⟨l, hl, rfl⟩ := List.mem_map.1 hv
 exact hc l (List.mem_filter.1 hl).1
theorem zIj : ∀ (xs : List Int) (v : Int), keysOf [v] xs = [v] ∨ 1 < (keysOf [v] xs).length
 | [], v => .inl rfl
 | x :: xs, v => by
  rw [keysOf]
  by_cases h : x ∈ [v]
  ·rw [if_pos h]; exact zIj xs v
  ·rw [if_neg h]
   refine .inr ?_
   have : ∀ (xs ks : List Int), ks.length ≤ (keysOf ks xs).length := by
    intro xs
    induction xs with
    | nil => exact fun ks => Nat.le_refl _
    | cons x xs ih => intro ks; rw [keysOf]; refine Nat.le_trans ?_ (ih _); split <;> simp
   have := this xs ([v] ++ [x])
   simp at this ⊢
   omega
theorem zJj : ∀ (xs : List Int) (v : Int), keysOf [v] xs = [v] ↔ xs.all (fun u => decide (u = v)) = true
 | [], v => by simp [keysOf]
 | x :: xs, v => by
  rw [keysOf, List.all_cons]
  by_cases h : x = v
  ·rw [if_pos (by rw [h]; exact List.mem_singleton.2 rfl), decide_eq_true h, Bool.true_and]; exact zJj xs v
  ·rw [if_neg (by rw [List.mem_singleton]; exact h), decide_eq_false h, Bool.false_and]
   have : ∀ (xs ks : List Int), ks.length ≤ (keysOf ks xs).length := by
    intro xs
    induction xs with
    | nil => exact fun ks => Nat.le_refl _
    | cons x xs ih => intro ks; rw [keysOf]; refine Nat.le_trans ?_ (ih _); split <;> simp
   have h2 := this xs ([v] ++ [x])
   exact ⟨fun e => by rw [e] at h2; simp at h2, fun e => by cases e⟩
theorem zRx {nv : Nat} {s : List (List Int)} {c : List LitD} (hc : ∀ l ∈ c, litE nv l = 0) (hs0 : s.length = nv) (hnv : nv ≤ 6) (hcl : c.length ≤ 40) : Sat Tryz.prog z9f [dS s, .sl .lit c] (dS (unitC s c)) :=
 zRv s c fun ok => by
  have hs : okStore s := ok_list (ok1 ok)
  have hlv : ∀ l ∈ c, 0 ≤ l.var ∧ l.var < s.length := fun l hl => by have := (zJ.1 (hc l hl)).1; omega
  rw [zQv]
  refine call1 (zjb s) (za (fun e => ?_) fun e => ?_)
  ·rw [unitC, if_pos e]
  rw [unitC, if_neg (by rw [e]; decide)]
  refine up (I := fun n v a => zgd s c _ n v a) 0 c.length rfl (Nat.zero_le _) (by omega) (fun k a => a = keysOf [] (liveV s (c.take k))) rfl fun n k a _ hk ha hn => ?_
  subst ha
  rw [zPv]
  by_cases h : k < c.length
  ·rw [sel_lt h, at_nat (t := .lit) h]
   have hl := zJ.1 (hc _ (List.getElem_mem h))
   have hlen : (keysOf [] (liveV s (c.take k))).length ≤ k := by
    have h1 := zYh (liveV s (c.take k)) []
    have h2 : (liveV s (c.take k)).length ≤ (c.take k).length := by rw [liveV, List.length_map]; exact List.length_filter_le _ _
    rw [List.length_nil] at h1
    rw [List.length_take] at h2
    omega
   have kapp : ∀ (xs ys ks : List Int), keysOf ks (xs ++ ys) = keysOf (keysOf ks xs) ys := by
    intro xs
    induction xs with
    | nil => exact fun ys ks => rfl
    | cons x xs ih => exact fun ys ks => ih ys _
   have hst : liveV s (c.take (k + 1)) = liveV s (c.take k) ++ if 0 ≤ toldL s c[k] then [c[k].var] else [] := by
    rw [liveV, ← List.take_append_getElem h, List.filter_append, List.map_append]
    congr 1
    by_cases e : 0 ≤ toldL s c[k]
    ·rw [if_pos e, List.filter_cons, if_pos (decide_eq_true e)]; rfl
    ·rw [if_neg e, List.filter_cons, if_neg (by rw [decide_eq_false e]; decide)]; rfl
   refine ⟨inb_nat h, call1 (zfx (hlv _ (List.getElem_mem h)) (zQb.2 hl.2.1)) (za (fun e => ⟨inb_nat h, call1 (zan _ _) (za (fun f => ⟨inb_nat h, room_of (t := .int) ?_, hn h _ ?_⟩) fun f => hn h _ ?_)⟩) fun e => hn h _ ?_)⟩
   ·show (_ + 1) * 8 ≤ _; omega
   ·rw [hst, if_pos (of_decide_eq_true e), kapp, keysOf, if_neg (fun x => by rw [zn.2 x] at f; exact absurd f (by decide))]; rfl
   ·rw [hst, if_pos (of_decide_eq_true e), kapp, keysOf, if_pos (zn.1 (by simpa using f))]; rfl
   ·rw [hst, if_neg (of_decide_eq_false e), List.append_nil]
  ·have hk' : k = c.length := by omega
   subst hk'
   rw [sel_end, List.take_length, z0h c fun l hl => (hlv l hl).1]
   have hpos := zQx hlv
   cases hL : liveV s c with
   | nil =>
    refine za (fun e => call1 (zGj (by omega)) rfl) fun e => absurd e (by simp [keysOf])
   | cons v vs =>
    have hv := hpos v (by rw [hL]; exact List.mem_cons_self ..)
    have hk : keysOf [] (v :: vs) = keysOf [v] vs := rfl
    rw [hk]
    refine df (by
     rcases zIj vs v with h | h
     ·rw [h]; simp
     ·omega) ?_
    by_cases ha : vs.all (fun u => decide (u = v)) = true
    ·have e1 := (zJj vs v).2 ha
     simp only [ha, if_true]
     rw [e1]
     refine df (by simp) ?_
     refine up (I := fun n2 u a => zKh s c _ n2 u [v] a) 0 s.length rfl (Nat.zero_le _) (by omega) (fun k a => a = keepS (fun w n => !decide ((w : Int) = v) || atC c v n) (s.take k)) rfl fun n2 k a _ hk ha2 hn2 => ?_
     subst ha2
     rw [zOv]
     by_cases h : k < s.length
     ·have hr := zqe hs h
      rw [sel_lt h]
      refine up (I := fun n4 u a => zle s c _ n2 k n4 u [v] _ a) 0 s[k].length rfl (Nat.zero_le _) (by omega) (fun j a => a = (s[k].take j).filter fun n => !decide ((k : Int) = v) || atC c v n) rfl fun n4 j a _ hj ha4 hn4 => ?_
      subst ha4
      rw [zNv, at_nat (t := .list .int) h]
      refine ⟨inb_nat h, ?_⟩
      by_cases hj' : j < s[k].length
      ·rw [sel_lt hj']
       refine ⟨rfl, ?_⟩
       refine up (I := fun n6 u a => zfd s c _ n2 k n4 j [v] _ _ n6 a u) 0 c.length rfl (Nat.zero_le _) (by omega) (fun i a => a = (!decide ((k : Int) = v) || atC (c.take i) v s[k][j])) (by rw [List.take_zero]; show _ = (_ || false); rw [Bool.or_false]; rfl) fun n6 i a _ hi ha6 hn6 => ?_
       subst ha6
       rw [zMv, at_nat (t := .list .int) h, at_nat (t := .int) hj']
       by_cases hi' : i < c.length
       ·have hl := zJ.1 (hc _ (List.getElem_mem hi'))
        have hat : atC (c.take (i + 1)) v s[k][j] = (atC (c.take i) v s[k][j] || if c[i].var = v then holdsL c[i] s[k][j] else false) := by rw [atC, zpb _ hi']; rfl
        rw [sel_lt hi', at_nat (t := .lit) hi']
        refine za (fun e => hn6 hi' _ ?_) fun e => ⟨inb_nat hi', za (fun f => ⟨inb_nat hi', inb_nat h, inb_nat hj', call1 (zte _ _ (zQb.2 hl.2.1)) (hn6 hi' _ ?_)⟩) fun f => hn6 hi' _ ?_⟩
        ·rw [hat, ← Bool.or_assoc, e]; rfl
        ·obtain ⟨e1, e2⟩ := Bool.or_eq_false_iff.1 e
         have hkv : (k : Int) = v := by simpa using e1
         rw [hat, ← Bool.or_assoc, e, if_pos (by rw [of_decide_eq_true f, hkv])]; rfl
        ·obtain ⟨e1, e2⟩ := Bool.or_eq_false_iff.1 e
         have hkv : (k : Int) = v := by simpa using e1
         rw [hat, ← Bool.or_assoc, e, if_neg (by rw [← hkv]; exact of_decide_eq_false f)]; rfl
       ·have hi2 : i = c.length := by omega
        subst hi2
        rw [sel_end, List.take_length]
        refine za (fun e => ⟨inb_nat h, inb_nat hj', room_of (t := .int) ?_, hn4 hj' _ ?_⟩) fun e => hn4 hj' _ ?_
        ·have := List.length_filter_le (fun n => !decide ((k : Int) = v) || atC c v n) (s[k].take j)
         rw [List.length_take] at this
         show (_ + 1) * 8 ≤ _
         omega
        ·rw [z8 _ hj', if_pos e]
        ·rw [z8 _ hj', if_neg (by rw [e]; decide)]
      ·have hj2 : j = s[k].length := by omega
       subst hj2
       rw [sel_end, List.take_length]
       refine ⟨room_of (t := .list .int) ?_, hn2 h _ (zVc _ h).symm⟩
       rw [zw, List.length_take]
       show (_ + 1) * 24 ≤ _
       omega
     ·have hk' : k = s.length := by omega
      subst hk'
      rw [sel_end, List.take_length]; rfl
    ·simp only [ha]
     have h1 := (zIj vs v).resolve_left fun e => ha ((zJj vs v).1 e)
     exact dt (by omega) rfl
theorem zSn {f g : Nat → Int → Bool} {s : List (List Int)} : keepS g (keepS f s) = keepS (fun v n => f v n && g v n) s := by
 rw [keepS, keepS, keepS, List.mapIdx_mapIdx]
 congr 1; funext v l
 show List.filter (g v) (List.filter (f v) l) = _
 rw [List.filter_filter]
 congr 1; funext n; exact Bool.and_comm _ _
theorem zTn {nv : Nat} {s : List (List Int)} {c : List LitD} (hc : ∀ l ∈ c, litE nv l = 0) (hs0 : s.length = nv) (hnv : nv ≤ 6) (hcl : c.length ≤ 40) : Sat Tryz.prog z0d [dS s, .sl .lit c] (dS (denyC s c)) :=
 zov s c fun ok => by
  have hs : okStore s := ok_list (ok1 ok)
  rw [znv]
  refine up (I := fun n v a => zAh c _ n a v) 0 c.length rfl (Nat.zero_le _) (by omega) (fun k a => a = denyC s (c.take k)) (by
   rw [List.take_zero, denyC, keepS]
   symm
   have : ∀ (l : List (List Int)), (l.mapIdx fun v l => l.filter fun n => !atC [] v n) = l := fun l => by
    apply List.ext_getElem
    ·simp
    ·intro i h1 h2; simp [atC]
   exact this s) fun n k a _ hk ha hn => ?_
  subst ha
  rw [zmv]
  by_cases h : k < c.length
  ·rw [sel_lt h]
   have hl := zJ.1 (hc _ (List.getElem_mem h))
   have hdl : (denyC s (c.take k)).length = s.length := zw
   generalize hd : denyC s (c.take k) = d at hdl
   have hrow : ∀ (i : Nat) (hi : i < d.length), d[i].length ≤ 17592186044416 := fun i hi => by
    have hi2 : i < s.length := by omega
    have := zqe hs hi2
    have e : d[i] = s[i].filter fun n => !atC (c.take k) i n := by subst hd; simp only [denyC, keepS, List.getElem_mapIdx]
    rw [e]
    exact Nat.le_trans (List.length_filter_le _ _) this
   refine up (I := fun n2 v a => zzh c _ n d k n2 v a) 0 d.length rfl (Nat.zero_le _) (by omega) (fun i a => a = keepS (fun v n => !(if c[k].var = v then holdsL c[k] n else false)) (d.take i)) rfl fun n2 i a _ hi ha2 hn2 => ?_
   subst ha2
   rw [zlv]
   by_cases h2 : i < d.length
   ·rw [sel_lt h2]
    have hr := hrow i h2
    refine up (I := fun n4 v a => zcd c _ n d k n2 i n4 v _ a) 0 d[i].length rfl (Nat.zero_le _) (by omega) (fun j a => a = (d[i].take j).filter fun n => !(if c[k].var = (i : Int) then holdsL c[k] n else false)) rfl fun n4 j a _ hj ha4 hn4 => ?_
    subst ha4
    rw [zkv, at_nat (t := .list .int) h2, at_nat (t := .lit) h]
    refine ⟨inb_nat h2, ?_⟩
    by_cases h4 : j < d[i].length
    ·rw [sel_lt h4, at_nat (t := .int) h4]
     have hrm : room .int (((d[i].take j).filter fun n => !(if c[k].var = (i : Int) then holdsL c[k] n else false)).length + ([d[i][j]]).length) = true := by
      have := List.length_filter_le (fun n => !(if c[k].var = (i : Int) then holdsL c[k] n else false)) (d[i].take j)
      rw [List.length_take] at this
      refine room_of (t := .int) ?_
      show (_ + 1) * 8 ≤ _
      omega
     refine ⟨inb_nat h, za (fun e => ⟨inb_nat h2, inb_nat h4, hrm, hn4 h4 _ ?_⟩) fun e => ⟨inb_nat h, inb_nat h2, inb_nat h4, call1 (zte _ _ (zQb.2 hl.2.1)) (za (fun f => ⟨inb_nat h2, inb_nat h4, hrm, hn4 h4 _ ?_⟩) fun f => hn4 h4 _ ?_)⟩⟩
     ·have e : ¬c[k].var = (i : Int) := fun x => by rw [x] at e; simp at e
      rw [z8 _ h4, if_pos (by rw [if_neg e]; rfl)]
     ·have e : c[k].var = (i : Int) := by simp at e; exact e.symm
      rw [z8 _ h4, if_pos (by rw [if_pos e]; exact f)]
     ·have e : c[k].var = (i : Int) := by simp at e; exact e.symm
      rw [z8 _ h4, if_neg (by rw [if_pos e, f]; decide)]
    ·have hj2 : j = d[i].length := by omega
     subst hj2
     rw [sel_end, List.take_length]
     refine ⟨room_of (t := .list .int) ?_, hn2 h2 _ (zVc _ h2).symm⟩
     rw [zw, List.length_take]
     show (_ + 1) * 24 ≤ _
     omega
   ·have hi2 : i = d.length := by omega
    subst hi2
    rw [sel_end, List.take_length]
    refine hn h _ ?_
    rw [← hd, denyC, denyC, zSn]
    congr 1; funext v n
    rw [show atC (c.take (k + 1)) v n = (atC (c.take k) v n || if c[k].var = (v : Int) then holdsL c[k] n else false) by rw [atC, zpb _ h]; rfl, Bool.not_or]
  ·have hk' : k = c.length := by omega
   subst hk'
   rw [sel_end, List.take_length]
end Go.Proofs.YtajnbkhgnppckaaGreatDoor
