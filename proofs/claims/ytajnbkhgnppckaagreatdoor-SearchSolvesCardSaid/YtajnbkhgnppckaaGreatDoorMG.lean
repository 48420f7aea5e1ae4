/- Texts of this proof, one behind the other: nothing is handed in but what is proved here; no condition. -/
import Derived.Test.YtajnbkhgnppckaaGreatDoorMF
import Derived.Test.YtajnbkhgnppckaaGreatDoorWFilter
import Derived.Test.YtajnbkhgnppckaaGreatDoorPRef2
import Derived.Test.YtajnbkhgnppckaaGreatDoorPModel4
/- What one constraint takes by sums: the program's terms, sums, and which values are part of a right one. -/
namespace Go.Proofs.YtajnbkhgnppckaaGreatDoor
open Go.RowKit
set_option linter.unusedVariables false
set_option linter.unusedSimpArgs false
structure GoodS (s : List (List Int)) (nv : Nat) : Prop where
 len : s.length = nv
 near : ∀ v : Nat, ∀ n ∈ s.getD v [], -50 ≤ n ∧ n ≤ 50
 rise : ∀ l ∈ s, l.Pairwise (· < ·)
theorem GoodS.nodup {s : List (List Int)} {nv : Nat} (h : GoodS s nv) (v : Nat) : (s.getD v []).Nodup := by
 by_cases hv : v < s.length
 ·rw [getD_at _ hv]
  exact (h.rise _ (List.getElem_mem hv)).imp fun {a b} hab => by omega
 ·rw [zj (by omega)]; exact List.nodup_nil
theorem GoodS.row {s : List (List Int)} {nv : Nat} (h : GoodS s nv) (v : Nat) : (s.getD v []).length ≤ 101 :=
 zgc (h.nodup v) (lo := -50) fun n hn => by have := h.near v n hn; omega
theorem ztb {m : MdlD} {s : List (List Int)} (hm : Right m) (h : storeE m s = 0) : GoodS s m.vars.length := by
 obtain ⟨h1, h2, h3⟩ := zTh.1 h
 refine ⟨h1, fun v n hn => ?_, h3⟩
 have := h2 v n hn
 by_cases hv : v < m.vars.length
 ·rw [getD_at _ hv] at this
  have := hm.lohi _ (List.getElem_mem hv)
  omega
 ·rw [zj (by omega)] at hn; cases hn
theorem GoodS.keep {s : List (List Int)} {nv : Nat} {f : Nat → Int → Bool} (h : GoodS s nv) : GoodS (keepS f s) nv := by
 refine ⟨zw.trans h.len, fun v n hn => ?_, fun l hl => ?_⟩
 ·rw [zp, List.mem_filter] at hn; exact h.near v n hn.1
 ·obtain ⟨i, hi, rfl⟩ := List.getElem_of_mem hl
  have hi' : i < s.length := by rw [zw] at hi; exact hi
  simp only [keepS, List.getElem_mapIdx]
  exact (h.rise _ (List.getElem_mem hi')).filter _
theorem zVy (t : TermD) (v : Int) : Sat Tryz.prog zlg [.agg [dI t.v, dI t.times], .iptr [dI v] 0] (dB (decide (t.v = v))) :=
 zPy t v fun ok => by rw [zOy]
theorem zip_fst : ∀ {a b : List Int}, a.length = b.length → (a.zip b).map Prod.fst = a
 | [], [], _ => rfl
 | x :: a, y :: b, h => by rw [List.zip_cons_cons, List.map_cons, zip_fst (by simpa using h)]
 | [], _ :: _, h => by simp at h
 | _ :: _, [], h => by simp at h
theorem zWy {c : ConD} {nv : Nat} (hc : RightC c nv) (hk : c.kind ≤ 3) : Sat Tryz.prog zdg [dC c] (.sl .term (termsC c)) :=
 zAy c fun ok => by
  obtain ⟨f1, f2⟩ := hc.formC.sums hk
  have hm := hc.many
  have hz : (c.vars.zip c.consts).length = c.vars.length := by rw [List.length_zip]; omega
  rw [zzy]
  refine up (I := fun n v a => zIe c _ n v a) 0 c.vars.length rfl (Nat.zero_le _) (by omega) (fun k a => a = termsZ ((c.vars.zip c.consts).take k)) rfl fun n k a _ hk2 ha hn => ?_
  subst ha
  rw [zyy]
  by_cases h : k < c.vars.length
  ·have hk3 : k < c.consts.length := by omega
   have hzk : k < (c.vars.zip c.consts).length := by omega
   have hst : termsZ ((c.vars.zip c.consts).take (k + 1)) = addT (termsZ ((c.vars.zip c.consts).take k)) c.vars[k] c.consts[k] := by
    rw [← List.take_append_getElem hzk, zod, List.getElem_zip]
   have hlen : (termsZ ((c.vars.zip c.consts).take k)).length ≤ k := Nat.le_trans (zao _) (by rw [List.length_take]; omega)
   have hcb := hc.consts _ (List.getElem_mem hk3)
   have htm := zbo ((c.vars.zip c.consts).take k) fun x hx => hc.consts x.2 (List.of_mem_zip (List.mem_of_mem_take hx)).2
   generalize termsZ ((c.vars.zip c.consts).take k) = o at hst hlen htm ⊢
   rw [sel_lt h, at_nat (t := .int) h, at_nat (t := .int) hk3]
   refine ⟨inb_nat h, call1 (zWm (p := fun t => decide (t.v = c.vars[k])) zuw fun t ht => zVy t _) ?_⟩
   rcases zRj (fun t : TermD => decide (t.v = c.vars[k])) o 0 with ⟨e, h2⟩ | ⟨j, hj, e, h2, h3⟩
   ·rw [e]
    refine dt (by decide) ⟨inb_nat hk3, room_of (t := .term) ?_, hn h _ ?_⟩
    ·show (_ + 1) * 16 ≤ _; omega
    ·rw [hst, z4n fun t ht => of_decide_eq_false (h2 t ht)]
   ·rw [e, Int.zero_add]
    refine df (show ¬((j : Int) < 0) by omega) ?_
    rw [at_nat (t := .term) hj]
    refine ⟨inb_nat hj, inb_nat hk3, inb_nat hj, hn h _ ?_⟩
    have := htm _ (List.getElem_mem hj)
    rw [List.length_take] at this
    rw [hst, z5n hj (of_decide_eq_true h2) fun i hi => of_decide_eq_false (h3 i hi), w64_eq (by omega) (by omega), Int.toNat_natCast]
  ·have hk' : k = c.vars.length := by omega
   subst hk'
   rw [sel_end, ← hz, List.take_length]; rfl
def sumsL (l row : List Int) (k : Int) : List Int := Lib.compact (sortI (l.flatMap fun a => row.map fun n => a + k * n))
theorem zDo {l row : List Int} {k x : Int} : x ∈ sumsL l row k ↔ ∃ a ∈ l, ∃ n ∈ row, x = a + k * n := by
 rw [sumsL, zEj, (List.mergeSort_perm _ _).mem_iff, List.mem_flatMap]
 constructor
 ·rintro ⟨a, ha, h⟩
  obtain ⟨n, hn, e⟩ := List.mem_map.1 h
  exact ⟨a, ha, n, hn, e.symm⟩
 ·rintro ⟨a, ha, n, hn, e⟩
  exact ⟨a, ha, List.mem_map.2 ⟨n, hn, e.symm⟩⟩
theorem zei {α β : Type} {f : α → List β} {b : Nat} : ∀ {l : List α}, (∀ a ∈ l, (f a).length ≤ b) → (l.flatMap f).length ≤ l.length * b
 | [], _ => by simp
 | a :: l, h => by
  rw [List.flatMap_cons, List.length_append, List.length_cons, Nat.add_mul, Nat.one_mul]
  have h1 := h a (List.mem_cons_self ..)
  have h2 := zei fun x hx => h x (List.mem_cons_of_mem _ hx)
  omega
theorem zXy {l row : List Int} {k : Int} {b : Nat} (h : row.length ≤ b) : (sumsL l row k).length ≤ l.length * b := by
 rw [sumsL]
 refine Nat.le_trans (zJn _) ?_
 rw [sortI, List.length_mergeSort]
 exact zei fun a _ => by rw [List.length_map]; exact h
theorem zEo {α β : Type} (f : α → List β) {xs : List α} {k : Nat} (h : k < xs.length) : (xs.take (k + 1)).flatMap f = (xs.take k).flatMap f ++ f xs[k] := by
 rw [← List.take_append_getElem h, List.flatMap_append, List.flatMap_cons, List.flatMap_nil, List.append_nil]
theorem zYy {l : List Int} {s : List (List Int)} {nv : Nat} {t : TermD} (hs : GoodS s nv) (hv : 0 ≤ t.v ∧ t.v < nv) (ht : -4000 ≤ t.times ∧ t.times ≤ 4000) (hl : ∀ a ∈ l, -4000000 ≤ a ∧ a ≤ 4000000) (hll : l.length ≤ 1000000000) :
  Sat Tryz.prog zeg [.sl .int l, dS s, .agg [dI t.v, dI t.times]] (.sl .int (sumsL l (s.getD t.v.toNat []) t.times)) :=
 zEy l s t fun ok => by
  have hvl : t.v.toNat < s.length := by have := hs.len; omega
  have hrow := hs.row t.v.toNat
  have hnear := hs.near t.v.toNat
  have hat : at' (.list .int) s t.v.toNat = s.getD t.v.toNat [] := rfl
  generalize s.getD t.v.toNat [] = row at hrow hnear hat ⊢
  have hfl : ∀ k, ((l.take k).flatMap fun a => row.map fun n => a + t.times * n).length ≤ l.length * 101 := fun k => by
   refine Nat.le_trans (zei (b := 101) fun a _ => by rw [List.length_map]; exact hrow) ?_
   rw [List.length_take]
   exact Nat.mul_le_mul_right _ (by omega)
  rw [zDy]
  refine up (I := fun n v a => zbi l s t _ n v a) 0 l.length rfl (Nat.zero_le _) (by omega) (fun k a => a = (l.take k).flatMap fun a => row.map fun n => a + t.times * n) (by simp) fun n k a _ hk ha hn => ?_
  subst ha
  rw [zCy]
  by_cases h : k < l.length
  ·rw [sel_lt h]
   refine ⟨inb_nat h, inb_iff.2 (by have := hs.len; omega), ?_⟩
   refine up (I := fun n2 v a => zai l s t _ n (k : Int) n2 v a) 0 row.length rfl (Nat.zero_le _) (by omega) (fun j a => a = ((l.take k).flatMap fun a => row.map fun n => a + t.times * n) ++ (row.take j).map fun n => l[k] + t.times * n) (by simp) fun n2 j a _ hj ha2 hn2 => ?_
   subst ha2
   rw [zBy, hat]
   by_cases h2 : j < row.length
   ·have b1 := hl _ (List.getElem_mem h)
    have b2 := hnear _ (List.getElem_mem h2)
    have b3 : -200000 ≤ t.times * row[j] ∧ t.times * row[j] ≤ 200000 := by
     have : (t.times * row[j]).natAbs ≤ 4000 * 50 := by rw [Int.natAbs_mul]; exact Nat.mul_le_mul (by omega) (by omega)
     omega
    rw [sel_lt h2, at_nat (t := .int) h, at_nat (t := .int) h2, w64_eq (n := t.times * row[j]) (by omega) (by omega), w64_eq (by omega) (by omega)]
    refine ⟨inb_nat h2, room_of (t := .int) ?_, hn2 h2 _ ?_⟩
    ·have := hfl k
     rw [List.length_append, List.length_map, List.length_take]
     show (_ + 1) * 8 ≤ _
     omega
    ·rw [zLd _ h2, List.append_assoc]
   ·have hj' : j = row.length := by omega
    subst hj'
    rw [sel_end, List.take_length]
    exact hn h _ (zEo _ h).symm
  ·have hk' : k = l.length := by omega
   subst hk'
   rw [sel_end, List.take_length]
   exact ⟨_, zCj _, _, zDj _, rfl⟩
def allOf (s : List (List Int)) (us : List TermD) : List Int := us.foldl (fun all u => sumsL all (s.getD u.v.toNat []) u.times) [0]
theorem zfi {s : List (List Int)} {us : List TermD} {u : TermD} : allOf s (us ++ [u]) = sumsL (allOf s us) (s.getD u.v.toNat []) u.times := by rw [allOf, List.foldl_append]; rfl
theorem zZy {s : List (List Int)} (hf : failS s = false) {x : Int} (us : List TermD) : (∀ t ∈ us, 0 ≤ t.v ∧ t.v.toNat < s.length) → (us.map TermD.v).Nodup → (x ∈ allOf s us ↔ SumOf us s x) := by
 refine zrb (C := fun us => ∀ x, (∀ t ∈ us, 0 ≤ t.v ∧ t.v.toNat < s.length) → (us.map TermD.v).Nodup → (x ∈ allOf s us ↔ SumOf us s x)) (fun x _ _ => ?_) (fun us u ih x h1 h2 => ?_) us x
 ·rw [zby hf]; exact List.mem_singleton
 ·rw [List.map_append, List.nodup_append] at h2
  have hu := h1 u (by simp)
  rw [zfi, zDo, zcy hu.1 hu.2 (fun t ht => (h1 t (by simp [ht])).1) (fun hm => h2.2.2 _ hm _ (by simp) rfl)]
  have h3 : ∀ a, a ∈ allOf s us ↔ SumOf us s a := fun a => ih a (fun t ht => h1 t (by simp [ht])) h2.1
  exact ⟨fun ⟨a, ha, r⟩ => ⟨a, (h3 a).1 ha, r⟩, fun ⟨a, ha, r⟩ => ⟨a, (h3 a).2 ha, r⟩⟩
theorem zFo {s : List (List Int)} {nv : Nat} (hs : GoodS s nv) (us : List TermD) : (∀ t ∈ us, -4000 ≤ t.times ∧ t.times ≤ 4000) → ∀ x ∈ allOf s us, -200000 * (us.length : Int) ≤ x ∧ x ≤ 200000 * (us.length : Int) := by
 refine zrb (C := fun us => (∀ t ∈ us, -4000 ≤ t.times ∧ t.times ≤ 4000) → ∀ x ∈ allOf s us, -200000 * (us.length : Int) ≤ x ∧ x ≤ 200000 * (us.length : Int)) (fun _ x hx => ?_) (fun us u ih h1 x hx => ?_) us
 ·have : x = 0 := List.mem_singleton.1 hx
  subst this; decide
 ·rw [zfi, zDo] at hx
  obtain ⟨a, ha, n, hn, rfl⟩ := hx
  have h2 := ih (fun t ht => h1 t (by simp [ht])) a ha
  have h3 := h1 u (by simp)
  have h4 := hs.near _ n hn
  have b3 : -200000 ≤ u.times * n ∧ u.times * n ≤ 200000 := by
   have : (u.times * n).natAbs ≤ 4000 * 50 := by rw [Int.natAbs_mul]; exact Nat.mul_le_mul (by omega) (by omega)
   omega
  rw [List.length_append, List.length_singleton]
  omega
theorem z0y {s : List (List Int)} {nv : Nat} (hs : GoodS s nv) (us : List TermD) : (allOf s us).length ≤ 101 ^ us.length := by
 refine zrb (C := fun us => (allOf s us).length ≤ 101 ^ us.length) (Nat.le_refl _) (fun us u ih => ?_) us
 rw [zfi, List.length_append, List.length_singleton, Nat.pow_succ]
 exact Nat.le_trans (zXy (hs.row _)) (Nat.mul_le_mul_right _ ih)
def linM (s : List (List Int)) (ts : List TermD) : List (Int × List Int) := ts.mapIdx fun i t => (t.v, allOf s (ts.eraseIdx i))
theorem zGo {c : ConD} {nv : Nat} (hc : RightC c nv) : ∀ t ∈ termsC c, -4000 ≤ t.times ∧ t.times ≤ 4000 := fun t ht => by
 have h := zbo (c.vars.zip c.consts) (fun x hx => hc.consts x.2 (List.of_mem_zip hx).2) t ht
 have := hc.many
 rw [List.length_zip] at h
 omega
theorem zHo {c : ConD} {nv : Nat} (hc : RightC c nv) : (termsC c).length ≤ 4 := by
 have h := zao (c.vars.zip c.consts)
 have := hc.many
 rw [List.length_zip] at h
 exact Nat.le_trans h (by omega)
theorem zIo {ts : List TermD} {f : Nat → TermD → List Int} : (ts.mapIdx fun i t => (t.v, f i t)).map Prod.fst = ts.map TermD.v := by
 apply List.ext_getElem
 ·simp
 ·intro i h1 h2; simp
theorem z1y {c : ConD} {s : List (List Int)} (hc : RightC c s.length) (hk : c.kind ≤ 3) (hs : GoodS s s.length) :
  SatH Tryz.prog z1f [dC c, dS s] [] (.clo zAc none [.iptr [.sl .term (termsC c)] 0, .iptr [.mp .int (.list .int) (linM s (termsC c))] 0, .iptr [.int .i64 c.kind, .sl .int c.vars, .sl .int c.consts, .int .i64 c.n, .sl (.list .int) c.rows, .sl .lit c.lits] 0]) [] :=
 zoy c s fun ok _ => by
  have h4 := zHo hc
  have hv := zWj hc
  have htm := zGo hc
  have hnd : ((termsC c).map TermD.v).Nodup := zUj _
  rw [zny]
  refine call1 (zWy hc hk) ?_
  generalize hts : termsC c = ts at h4 hv htm hnd ⊢
  have hlm : linM s ts = ts.mapIdx fun i t => (t.v, allOf s (ts.eraseIdx i)) := rfl
  refine up (I := fun n v a => z6h c s _ ts n v ts a) 0 ts.length rfl (Nat.zero_le _) (by omega) (fun i a => a = (ts.take i).mapIdx fun i t => (t.v, allOf s (ts.eraseIdx i))) rfl fun n i a _ hi ha hn => ?_
  subst ha
  rw [zmy]
  by_cases h : i < ts.length
  ·rw [sel_lt h, at_nat (t := .term) h]
   refine ⟨inb_nat h, ?_⟩
   refine up (I := fun n2 v a => zHe c s _ ts n (i : Int) ts _ n2 a v ts _ _) 0 ts.length rfl (Nat.zero_le _) (by omega) (fun k a => a = allOf s ((ts.take k).eraseIdx i)) rfl fun n2 k a _ hk2 ha2 hn2 => ?_
   subst ha2
   rw [zly]
   by_cases h2 : k < ts.length
   ·rw [sel_lt h2, at_nat (t := .term) h2]
    refine ⟨inb_nat h2, ?_⟩
    have est := zdy (l := ts) (i := i) h2
    by_cases e : k = i
    ·refine dnf (show (k : Int) = (i : Int) by omega) (hn2 h2 _ ?_)
     rw [est, if_pos e]
    ·refine dnt (show ¬(k : Int) = (i : Int) by omega) ?_
     have hsub : ((ts.take k).eraseIdx i).Sublist ts := (List.eraseIdx_sublist ..).trans (List.take_sublist ..)
     have hul : ((ts.take k).eraseIdx i).length ≤ 4 := Nat.le_trans hsub.length_le h4
     have hb := zFo hs ((ts.take k).eraseIdx i) fun t ht => htm t (hsub.subset ht)
     refine call1 (zYy hs (hv _ (List.getElem_mem h2)) (htm _ (List.getElem_mem h2)) (fun a ha => by have := hb a ha; omega) ?_) (hn2 h2 _ ?_)
     ·exact Nat.le_trans (z0y hs _) (Nat.le_trans (Nat.pow_le_pow_right (by decide) hul) (by decide))
     ·rw [est, if_neg e, zfi]
   ·have hk' : k = ts.length := by omega
    subst hk'
    rw [sel_end, List.take_length]
    have hml : ((ts.take i).mapIdx fun i t => (t.v, allOf s (ts.eraseIdx i))).length = i := by rw [List.length_mapIdx, List.length_take]; omega
    refine ⟨decide_eq_true (by rw [hml]; omega), hn h _ ?_⟩
    rw [zVc _ h]
    refine z3h (kt := .int) (vt := .list .int) zdb _ ?_
    cases e : mget .int (.list .int) ts[i].v ((ts.take i).mapIdx fun i t => (t.v, allOf s (ts.eraseIdx i))) with
    | none => rfl
    | some k =>
     have h5 := (zfc (kt := .int) (vt := .list .int) zdb _).2 ⟨k, e⟩
     rw [zIo] at h5
     have h6 : ts.map TermD.v = (ts.take i).map TermD.v ++ (ts.drop i).map TermD.v := by rw [← List.map_append, List.take_append_drop]
     rw [h6, List.nodup_append] at hnd
     exact absurd rfl (hnd.2.2 _ h5 ts[i].v (List.mem_map.2 ⟨ts[i], by rw [List.drop_eq_getElem_cons h]; exact List.mem_cons_self .., rfl⟩))
  ·have hi' : i = ts.length := by omega
   subst hi'
   rw [sel_end, List.take_length, hlm]
   exact ⟨rfl, rfl⟩
theorem z2y (t : TermD) (v : Int) : Sat Tryz.prog zfg [.agg [dI t.v, dI t.times], .iptr [dI v] 0] (dB (decide (t.v = v))) :=
 zIy t v fun ok => by rw [zHy]
theorem z3y {c : ConD} {t : TermD} {a n : Int} (ht : -4000 ≤ t.times ∧ t.times ≤ 4000) (hn : -50 ≤ n ∧ n ≤ 50) (ha : -4000000 ≤ a ∧ a ≤ 4000000) : Sat Tryz.prog zgg [dI a, .iptr [.int .i64 c.kind, .sl .int c.vars, .sl .int c.consts, .int .i64 c.n, .sl (.list .int) c.rows, .sl .lit c.lits] 0, .iptr [dI t.v, dI t.times] 0, .iptr [dI n] 0] (dB (okSum c (a + t.times * n))) :=
 zKy a c t n fun ok => by
  have b3 : -200000 ≤ t.times * n ∧ t.times * n ≤ 200000 := by
   have : (t.times * n).natAbs ≤ 4000 * 50 := by rw [Int.natAbs_mul]; exact Nat.mul_le_mul (by omega) (by omega)
   omega
  rw [zJy, w64_eq (n := t.times * n) (by omega) (by omega), w64_eq (by omega) (by omega)]
  exact call1 (zzn c _) rfl
theorem z4y {c : ConD} {s : List (List Int)} (hc : RightC c s.length) (hk : c.kind ≤ 3) (hs : GoodS s s.length) (hf : failS s = false) {v n : Int} (hv : v ∈ c.vars) (hn : n ∈ s.getD v.toNat []) :
  Sat Tryz.prog zAc [dI v, dI n, .iptr [.sl .term (termsC c)] 0, .iptr [.mp .int (.list .int) (linM s (termsC c))] 0, .iptr [.int .i64 c.kind, .sl .int c.vars, .sl .int c.consts, .int .i64 c.n, .sl (.list .int) c.rows, .sl .lit c.lits] 0] (dB (mayB (trueC c) s v.toNat n)) :=
 zGy v n (termsC c) (linM s (termsC c)) c fun ok => by
  have hvv := zWj hc
  have htm := zGo hc
  have hnd : ((termsC c).map TermD.v).Nodup := zUj _
  rw [zFy]
  refine call1 (zWm (p := fun t => decide (t.v = v)) zrw fun t ht => z2y t _) ?_
  rcases zRj (fun t : TermD => decide (t.v = v)) (termsC c) 0 with ⟨e, h2⟩ | ⟨j, hj, e, h2, h3⟩
  ·obtain ⟨f1, f2⟩ := hc.formC.sums hk
   have : v ∈ (termsC c).map TermD.v := by
    rw [termsC, z9n, zip_fst f2.symm]; exact hv
   obtain ⟨t, ht, rfl⟩ := List.mem_map.1 this
   exact absurd rfl (of_decide_eq_false (h2 t ht))
  ·have h2 : (termsC c)[j].v = v := of_decide_eq_true h2
   rw [e, Int.zero_add, at_nat (t := .term) hj]
   have hg : mget .int (.list .int) v (linM s (termsC c)) = some (allOf s ((termsC c).eraseIdx j)) := by
    refine mget_of (kt := .int) (vt := .list .int) zdb _ (by rw [linM, zIo]; exact hnd) ?_
    have hjl : j < (linM s (termsC c)).length := by rw [linM, List.length_mapIdx]; exact hj
    have : (linM s (termsC c))[j] = (v, allOf s ((termsC c).eraseIdx j)) := by simp only [linM, List.getElem_mapIdx]; rw [h2]
    rw [← this]; exact List.getElem_mem hjl
   have hgd : mgetD .int (.list .int) v (linM s (termsC c)) = allOf s ((termsC c).eraseIdx j) := by rw [mgetD, hg]; rfl
   rw [hgd]
   have hsub : ((termsC c).eraseIdx j).Sublist (termsC c) := List.eraseIdx_sublist ..
   have hb := zFo hs ((termsC c).eraseIdx j) fun t ht => htm t (hsub.subset ht)
   have hlen := Nat.le_trans hsub.length_le (zHo hc)
   refine ⟨inb_nat hj, call1 (zne (p := fun a => okSum c (a + (termsC c)[j].times * n)) zsw fun a ha => z3y (htm _ (List.getElem_mem hj)) (hs.near _ n hn) (by have := hb a ha; omega)) ?_⟩
   congr 1
   rw [Bool.eq_iff_iff, zA, List.any_eq_true]
   have h5 := sum_may (c := c) (s := s) hc hk hj (n := n) (by rw [h2]; exact hn)
   rw [h2] at h5
   rw [h5]
   have hmem : ∀ a, a ∈ allOf s ((termsC c).eraseIdx j) ↔ SumOf ((termsC c).eraseIdx j) s a := fun a => zZy hf _ (fun t ht => by have := hvv t (hsub.subset ht); omega) (hnd.sublist (hsub.map _))
   exact ⟨fun ⟨a, h6, h7⟩ => ⟨a, (hmem a).1 h6, h7⟩, fun ⟨a, h6, h7⟩ => ⟨a, (hmem a).2 h6, h7⟩⟩
end Go.Proofs.YtajnbkhgnppckaaGreatDoor
/- What one constraint takes where all must differ: the program's matcher. -/
namespace Go.Proofs.YtajnbkhgnppckaaGreatDoor
open Go.RowKit
set_option linter.unusedVariables false
set_option linter.unusedSimpArgs false
def rowsV (s : List (List Int)) (vars : List Int) : List (List Int) := vars.map fun v => s.getD v.toNat []
theorem zsd {s : List (List Int)} {vars : List Int} : (rowsV s vars).length = vars.length := List.length_map ..
theorem zJo {s : List (List Int)} {vars : List Int} {i : Nat} (h : i < vars.length) : (rowsV s vars).getD i [] = s.getD (vars.getD i 0).toNat [] := by
 rw [getD_at _ (by rw [zsd]; exact h), getD_at _ h]; simp [rowsV]
abbrev hpF (s : List (List Int)) (vars : List Int) (turn : Int) (m a : KV) : List (Nat × HObj) := [(1000, .cells [dS s, .sl .int vars, .own 1001, .own 1002, dI turn]), (1001, .mp .int .int m), (1002, .mp .int .int a)]
def PostF (s : List (List Int)) (vars : List Int) (turn i : Int) (m a : KV) (b : Bool) (m' a' : KV) : Prop :=
 (b = true → Found (rowsV s vars) turn i m a m' a') ∧ (b = false → m' = m ∧ Tried (rowsV s vars) turn m a ((rowsV s vars).getD i.toNat []) a')
theorem z4j {n : Int} {m : KV} : mhas .int .int n m = (mget .int .int n m).isSome := rfl
theorem zKo {s : List (List Int)} {vars : List Int} {turn i : Int} {m a0 : KV} (ht : 1 ≤ turn) (hm : ByOk (rowsV s vars) m) (hi : 0 ≤ i ∧ i < vars.length)
  (near : ∀ r ∈ rowsV s vars, ∀ n ∈ r, -50 ≤ n ∧ n ≤ 50) (len : ∀ r ∈ rowsV s vars, r.length ≤ 101)
  (rec : ∀ (a : KV) (k : Int), left turn a < left turn a0 → AskOk turn a → 0 ≤ k → k < vars.length → ∃ b m' a', SatH Tryz.prog z6c [.ptr 1000 0, dI k] (hpF s vars turn m a) (.bool b) (hpF s vars turn m' a') ∧ PostF s vars turn k m a b m' a') :
  ∀ (e j : Nat), j + e = (s.getD (vars.getD i.toNat 0).toNat []).length → ∀ a, Tried (rowsV s vars) turn m a0 ((s.getD (vars.getD i.toNat 0).toNat []).take j) a →
   ∃ b m' a' n, zJe s vars i (fun d h1 => d = .bool b ∧ h1 = hpF s vars turn m' a') n (j : Int) s vars turn m a ∧ PostF s vars turn i m a0 b m' a' := by
 have hil : i.toNat < vars.length := by omega
 have hrow := zJo (s := s) hil
 have hrl : i.toNat < (rowsV s vars).length := by rw [zsd]; exact hil
 have hir : 0 ≤ i ∧ i < (rowsV s vars).length := by rw [zsd]; exact hi
 have hnr : ∀ n ∈ s.getD (vars.getD i.toNat 0).toNat [], -50 ≤ n ∧ n ≤ 50 := fun n hn => by
  rw [← hrow, getD_at _ hrl] at hn
  exact near _ (List.getElem_mem hrl) n hn
 have hlr : (s.getD (vars.getD i.toNat 0).toNat []).length ≤ 101 := by
  rw [← hrow, getD_at _ hrl]
  exact len _ (List.getElem_mem hrl)
 have hat : at' (.list .int) s ((at' .int vars i.toNat).toNat) = s.getD (vars.getD i.toNat 0).toNat [] := rfl
 intro e
 induction e with
 | zero =>
  intro j hj a ha
  refine ⟨false, m, a, 1, ?_, fun h => (by cases h), fun _ => ⟨rfl, ?_⟩⟩
  ·rw [zKe, hat, show j = (s.getD (vars.getD i.toNat 0).toNat []).length by omega, sel_end]
   exact ⟨rfl, rfl⟩
  ·rw [hrow]
   rwa [show j = (s.getD (vars.getD i.toNat 0).toNat []).length by omega, List.take_length] at ha
 | succ e ih =>
  intro j hj a ha
  generalize hR : s.getD (vars.getD i.toNat 0).toNat [] = row at hrow hat hnr hlr hj ha ih
  have hjl : j < row.length := by omega
  have hnj := hnr _ (List.getElem_mem hjl)
  have hw : w64 ((j : Int) + 1) = ((j + 1 : Nat) : Int) := w64_up (by omega)
  have hst : row.take (j + 1) = row.take j ++ [row[j]] := (List.take_append_getElem hjl).symm
  have hmem : row[j] ∈ (rowsV s vars).getD i.toNat [] := by rw [hrow]; exact List.getElem_mem hjl
  by_cases hask : Ask turn a row[j]
  ·obtain ⟨b, m', a', n, h1, h2⟩ := ih (j + 1) (by omega) a (by rw [hst]; exact z3x ha hask)
   refine ⟨b, m', a', n + 1, ?_, h2⟩
   rw [zKe, hat, sel_lt hjl, at_nat (t := .int) hjl]
   refine ⟨inb_nat hjl, dt hask ?_⟩
   rw [hw]; exact h1
  ·have hal : a.length ≤ 101 := ha.ask.length
   have hml : m.length ≤ 101 := hm.length near
   have hap := ha.ask.put hnj ht
   cases hg : mget .int .int row[j] m with
   | none =>
    refine ⟨true, _, _, 1, ?_, fun _ => (z1x hm ha.ask ht hnj ⟨hi.1, hir.2, hmem⟩ hask hg).start ha.more, fun h => (by cases h)⟩
    rw [zKe, hat, sel_lt hjl, at_nat (t := .int) hjl]
    refine ⟨inb_nat hjl, df hask ⟨decide_eq_true (by omega), ?_⟩⟩
    rw [z4j, hg]
    exact ⟨decide_eq_true (by omega), rfl, rfl⟩
   | some k =>
    have hk := hm.ok _ _ hg
    rw [zsd] at hk
    have hlt : left turn (mput .int .int row[j] turn a) < left turn a0 := Nat.lt_of_lt_of_le (left_lt hnj hask) (zYx ha.more)
    obtain ⟨b, m2, a2, hs, p1, p2⟩ := rec _ k hlt hap hk.1 hk.2.1
    have hgd : mgetD .int .int row[j] m = k := by rw [mgetD, hg]; rfl
    cases b with
    | true =>
     have hfd := p1 rfl
     refine ⟨true, _, _, 1, ?_, fun _ => (z2x ⟨hi.1, hir.2, hmem⟩ hask hg hfd).start ha.more, fun h => (by cases h)⟩
     rw [zKe, hat, sel_lt hjl, at_nat (t := .int) hjl]
     refine ⟨inb_nat hjl, df hask ⟨decide_eq_true (by omega), ?_⟩⟩
     rw [z4j, hg, hgd]
     have := hfd.ok.length near
     exact ⟨true, m2, a2, hs, decide_eq_true (by omega), rfl, rfl⟩
    | false =>
     obtain ⟨rfl, htr⟩ := p2 rfl
     obtain ⟨b, m', a', n, h1, h2⟩ := ih (j + 1) (by omega) a2 (by rw [hst]; exact z4x ha hg htr)
     refine ⟨b, m', a', n + 1, ?_, h2⟩
     rw [zKe, hat, sel_lt hjl, at_nat (t := .int) hjl]
     refine ⟨inb_nat hjl, df hask ⟨decide_eq_true (by omega), ?_⟩⟩
     rw [z4j, hg, hgd]
     refine ⟨false, m2, a2, hs, ?_⟩
     rw [hw]; exact h1
theorem z5y {s : List (List Int)} {vars : List Int} {turn : Int} (ht : 1 ≤ turn) (hv : ∀ v ∈ vars, 0 ≤ v ∧ v < s.length) (near : ∀ r ∈ rowsV s vars, ∀ n ∈ r, -50 ≤ n ∧ n ≤ 50) (len : ∀ r ∈ rowsV s vars, r.length ≤ 101) :
  ∀ (d : Nat) (m a : KV) (i : Int), left turn a ≤ d → ByOk (rowsV s vars) m → AskOk turn a → 0 ≤ i → i < vars.length →
   ∃ b m' a', SatH Tryz.prog z6c [.ptr 1000 0, dI i] (hpF s vars turn m a) (.bool b) (hpF s vars turn m' a') ∧ PostF s vars turn i m a b m' a' := by
 intro d
 induction d with
 | zero =>
  intro m a i hd hm ha h0 h1
  obtain ⟨b, m', a', n, h2, h3⟩ := zKo ht hm ⟨h0, h1⟩ near len (a0 := a) (fun a k hl _ _ _ => absurd hl (by omega)) _ 0 (Nat.zero_add _) a (z1n ha)
  refine ⟨b, m', a', zAo s vars turn m a i fun _ _ => ?_, h3⟩
  rw [zzo]
  exact ⟨inb_iff.2 (by omega), inb_iff.2 (by have := hv (at' .int vars i.toNat) (by rw [atN (t := .int) (show i.toNat < vars.length by omega)]; exact List.getElem_mem _); omega), n, h2⟩
 | succ d ih =>
  intro m a i hd hm ha h0 h1
  obtain ⟨b, m', a', n, h2, h3⟩ := zKo ht hm ⟨h0, h1⟩ near len (a0 := a) (fun a' k hl hok hk0 hk1 => ih m a' k (by omega) hm hok hk0 hk1) _ 0 (Nat.zero_add _) a (z1n ha)
  refine ⟨b, m', a', zAo s vars turn m a i fun _ _ => ?_, h3⟩
  rw [zzo]
  exact ⟨inb_iff.2 (by omega), inb_iff.2 (by have := hv (at' .int vars i.toNat) (by rw [atN (t := .int) (show i.toNat < vars.length by omega)]; exact List.getElem_mem _); omega), n, h2⟩
theorem zLo {α : Type} {l : List α} (h : l.Nodup) {i j : Nat} (hi : i < l.length) (hj : j < l.length) (e : l[i] = l[j]) : i = j := by
 rcases Nat.lt_trichotomy i j with h1 | h1 | h1
 ·exact absurd e (List.pairwise_iff_getElem.1 h i j hi hj h1)
 ·exact h1
 ·exact absurd e.symm (List.pairwise_iff_getElem.1 h j i hj hi h1)
theorem zMo {c : ConD} (hk : c.kind = 4) {vs : List Int} : trueC c vs = decide (valsC c vs).Nodup := by
 rw [trueC]; simp [hk]
theorem z6y {c : ConD} {s : List (List Int)} (hc : RightC c s.length) (hk : c.kind = 4) (hnd : c.vars.Nodup) (hf : failS s = false) {v n : Int} (hv : v ∈ c.vars) (hn : n ∈ s.getD v.toNat []) :
  May (trueC c) s v.toNat n ↔ ∃ σ : Nat → Int, (∀ j, j < c.vars.length → σ j ∈ (rowsV (s.set v.toNat [n]) c.vars).getD j []) ∧ ∀ j k, j < c.vars.length → k < c.vars.length → σ j = σ k → j = k := by
 have hvv := hc.vars v hv
 have hvl : v.toNat < s.length := by omega
 have hset : ∀ u : Nat, (s.set v.toNat [n]).getD u [] = if u = v.toNat then [n] else s.getD u [] := fun u => by
  rw [List.getD_eq_getElem?_getD, List.getD_eq_getElem?_getD, List.getElem?_set]
  by_cases e : u = v.toNat
  ·rw [if_pos e.symm, if_pos e, if_pos (by omega)]; rfl
  ·rw [if_neg (fun x => e x.symm), if_neg e]
 have hrow : ∀ (j : Nat) (hj : j < c.vars.length), (rowsV (s.set v.toNat [n]) c.vars).getD j [] = if c.vars[j].toNat = v.toNat then [n] else s.getD c.vars[j].toNat [] := fun j hj => by
  rw [zJo hj, hset, getD_at _ hj]
 constructor
 ·rintro ⟨vs, h1, h2, h3⟩
  refine ⟨fun j => vs.getD (c.vars.getD j 0).toNat 0, fun j hj => ?_, fun j k hj hk2 e => ?_⟩
  ·rw [hrow j hj]
   show vs.getD (c.vars.getD j 0).toNat 0 ∈ _
   rw [getD_at _ hj]
   split
   ·rename_i e; rw [e, h2]; exact List.mem_singleton.2 rfl
   ·have := hc.vars _ (List.getElem_mem hj)
    exact h1.2 _ (by omega)
  ·rw [zMo hk] at h3
   have h4 := of_decide_eq_true h3
   refine zLo h4 (by rw [zcc]; exact hj) (by rw [zcc]; exact hk2) ?_
   rw [zmd hj, zmd hk2]
   simpa only [getD_at _ hj, getD_at _ hk2] using e
 ·rintro ⟨σ, h1, h2⟩
  obtain ⟨ps, hp⟩ := zze hf
  have hg : ∀ u : Nat, u < s.length → ((List.range s.length).map fun u : Nat => if (u : Int) ∈ c.vars then σ (c.vars.idxOf (u : Int)) else ps.getD u 0).getD u 0 = if (u : Int) ∈ c.vars then σ (c.vars.idxOf (u : Int)) else ps.getD u 0 := fun u hu => z5h hu
  have hix : ∀ (j : Nat) (hj : j < c.vars.length), c.vars.idxOf c.vars[j] = j := fun j hj => by
   have h5 : c.vars.idxOf c.vars[j] < c.vars.length := List.idxOf_lt_length_of_mem (List.getElem_mem hj)
   exact zLo hnd h5 hj (List.getElem_idxOf h5)
  have hat : ∀ (j : Nat) (hj : j < c.vars.length), ((List.range s.length).map fun u : Nat => if (u : Int) ∈ c.vars then σ (c.vars.idxOf (u : Int)) else ps.getD u 0).getD c.vars[j].toNat 0 = σ j := fun j hj => by
   have := hc.vars _ (List.getElem_mem hj)
   rw [hg _ (by omega), Int.toNat_of_nonneg this.1, if_pos (List.getElem_mem hj), hix j hj]
  refine ⟨(List.range s.length).map fun u : Nat => if (u : Int) ∈ c.vars then σ (c.vars.idxOf (u : Int)) else ps.getD u 0, ⟨by simp, fun u hu => ?_⟩, ?_, ?_⟩
  ·rw [hg u hu]
   split
   ·rename_i e
    obtain ⟨j, hj, e2⟩ := List.getElem_of_mem e
    rw [← e2, hix j hj]
    have h5 := h1 j hj
    rw [hrow j hj, e2, Int.toNat_natCast] at h5
    split at h5
    ·rename_i e3; rw [List.mem_singleton.1 h5, e3]; exact hn
    ·exact h5
   ·exact hp.2 u hu
  ·obtain ⟨j, hj, rfl⟩ := List.getElem_of_mem hv
   rw [hat j hj]
   have h5 := h1 j hj
   rw [hrow j hj, if_pos rfl] at h5
   exact List.mem_singleton.1 h5
  ·rw [zMo hk]
   refine decide_eq_true (List.pairwise_iff_getElem.2 fun i j hi hj hij e => ?_)
   rw [zcc] at hi hj
   rw [zmd hi, zmd hj, hat i hi, hat j hj] at e
   have := h2 i j hi hj e
   omega
theorem z7y (s : List (List Int)) : SatH Tryz.prog zhg [dS s] [] (.own 3000) [(3000, .row 26 (.list .int) s)] :=
 zet s fun ok _ => by
  rw [zdt]
  intro b hb
  refine za (fun e => ?_) fun e => ⟨?_, ?_⟩
  ·rw [hb e]; exact ⟨rfl, rfl⟩
  ·refine room_of (t := .list .int) ?_
   have := (ok_list (t := .list .int) (ok1 ok)).1
   show (0 + s.length) * 24 ≤ _
   have h8 : s.length * 24 ≤ 140737488355328 := this
   omega
  ·exact ⟨rfl, rfl⟩
theorem z8y (c : ConD) (s : List (List Int)) : SatH Tryz.prog z3f [dC c, dS s] [] (.clo zBc none [.iptr [dS s] 0, .iptr [.int .i64 c.kind, .sl .int c.vars, .sl .int c.consts, .int .i64 c.n, .sl (.list .int) c.rows, .sl .lit c.lits] 0]) [] :=
 zsy c s fun _ _ => by
  rw [zry]
  exact ⟨rfl, rfl⟩
theorem z9y {c : ConD} {s : List (List Int)} (hc : RightC c s.length) (hk : c.kind = 4) (hnd : c.vars.Nodup) (hs : GoodS s s.length) (hf : failS s = false) {v n : Int} (hv : v ∈ c.vars) (hn : n ∈ s.getD v.toNat []) :
  Sat Tryz.prog zBc [dI v, dI n, .iptr [dS s] 0, .iptr [.int .i64 c.kind, .sl .int c.vars, .sl .int c.consts, .int .i64 c.n, .sl (.list .int) c.rows, .sl .lit c.lits] 0] (dB (mayB (trueC c) s v.toNat n)) :=
 zNy v n s c fun ok => by
  have hvv := hc.vars v hv
  have hm4 := hc.many
  have hmay := z6y hc hk hnd hf hv hn
  have hset : ∀ u : Nat, (s.set v.toNat [n]).getD u [] = if u = v.toNat then [n] else s.getD u [] := fun u => by
   rw [List.getD_eq_getElem?_getD, List.getD_eq_getElem?_getD, List.getElem?_set]
   by_cases e : u = v.toNat
   ·rw [if_pos e.symm, if_pos e, if_pos (by omega)]; rfl
   ·rw [if_neg (fun x => e x.symm), if_neg e]
  have near : ∀ r ∈ rowsV (s.set v.toNat [n]) c.vars, ∀ x ∈ r, -50 ≤ x ∧ x ≤ 50 := fun r hr x hx => by
   obtain ⟨u, hu, rfl⟩ := List.mem_map.1 hr
   rw [hset] at hx
   split at hx
   ·rw [List.mem_singleton.1 hx]; exact hs.near _ n hn
   ·exact hs.near _ x hx
  have len : ∀ r ∈ rowsV (s.set v.toNat [n]) c.vars, r.length ≤ 101 := fun r hr => by
   obtain ⟨u, hu, rfl⟩ := List.mem_map.1 hr
   rw [hset]
   split
   ·show 1 ≤ 101; decide
   ·exact hs.row _
  have hv2 : ∀ u ∈ c.vars, 0 ≤ u ∧ u < (s.set v.toNat [n]).length := fun u hu => by rw [List.length_set]; exact hc.vars u hu
  rw [zMy]
  refine ⟨s, z7y s, inb_iff.2 hvv, ?_⟩
  show ∃ n0, zrd c _ n0 0 ([] : KV) ([] : KV) (s.set v.toNat [n]) c.vars 0
  refine up (I := fun n0 u (a : KV × KV) => zrd c _ n0 u a.1 a.2 (s.set v.toNat [n]) c.vars u) (a := (([] : KV), ([] : KV))) 0 c.vars.length rfl (Nat.zero_le _) (by omega)
   (fun k a => ByOk (rowsV (s.set v.toNat [n]) c.vars) a.1 ∧ (a.1.map Prod.snd).Perm (upI k) ∧ AskOk (k : Int) a.2) ⟨z0x, List.Perm.refl _, zZx⟩ fun n0 k a _ hk2 ha hnx => ?_
  obtain ⟨m, a⟩ := a
  obtain ⟨h1, h2, h3⟩ := ha
  show zrd c _ (n0 + 1) (k : Int) m a (s.set v.toNat [n]) c.vars (k : Int)
  rw [zLy]
  by_cases h : k < c.vars.length
  ·rw [sel_lt h]
   have hw : w64 ((k : Int) + 1) = ((k + 1 : Nat) : Int) := w64_up (by omega)
   have h3' : AskOk ((k + 1 : Nat) : Int) a := h3.later (by omega)
   obtain ⟨b, m', a', q1, q2, q3⟩ := z5y (turn := ((k + 1 : Nat) : Int)) (by omega) hv2 near len _ m a (k : Int) (Nat.le_refl _) h1 h3' (by omega) (by omega)
   rw [hw]
   refine ⟨b, m', a', q1, ?_⟩
   cases b with
   | false =>
    refine bnt rfl ?_
    obtain ⟨_, htr⟩ := q3 rfl
    rw [Int.toNat_natCast] at htr
    have hno := z7x h1 h2 (h3.none (by omega) (by omega)) htr
    rw [zSx.2]
    intro hy
    obtain ⟨σ, y1, y2⟩ := hmay.1 hy
    exact hno ⟨σ, fun j hj => y1 j (by omega), fun j k2 hj hk3 => y2 j k2 (by omega) (by omega)⟩
   | true =>
    refine bnf rfl ?_
    have hfd := q2 rfl
    have := hnx h (m', a') ⟨hfd.ok, hfd.vals.trans ((h2.cons _).trans z6x), hfd.ask⟩
    rw [hw] at this
    exact this
  ·have hk' : k = c.vars.length := by omega
   subst hk'
   rw [sel_end, zA.2]
   have hall := z8x h1 (by rw [zsd]; exact h2)
   rw [zsd] at hall
   exact hmay.2 hall
end Go.Proofs.YtajnbkhgnppckaaGreatDoor
/- What one constraint takes: the program's walker through all values, and what is left by a constraint. -/
namespace Go.Proofs.YtajnbkhgnppckaaGreatDoor
open Go.RowKit
set_option linter.unusedVariables false
set_option linter.unusedSimpArgs false
abbrev MV := List ((Int × Int) × Int)
structure MetOk (nv : Nat) (m : MV) : Prop where
 nodup : (m.map Prod.fst).Nodup
 near : ∀ x ∈ m.map Prod.fst, (0 ≤ x.1 ∧ x.1 < (nv : Int)) ∧ -50 ≤ x.2 ∧ x.2 ≤ 50
 one : ∀ (x : Int × Int) (k : Int), mget (.pr .int .int) .int x m = some k → k = 1
theorem zaz {nv : Nat} : MetOk nv [] := ⟨List.nodup_nil, fun n hn => (by cases hn), fun n t h => (by cases h)⟩
theorem MetOk.length {nv : Nat} {m : MV} (h : MetOk nv m) : m.length ≤ nv * 101 := by
 have h1 : ((m.map Prod.fst).map fun x => x.1 * 101 + x.2 + 50).Nodup := zFe h.nodup fun x hx y hy e => by
  have a := h.near x hx
  have b := h.near y hy
  have e1 : x.1 = y.1 := by omega
  exact Prod.ext e1 (by omega)
 have := zgc h1 (lo := 0) (n := nv * 101) fun x hx => by
  obtain ⟨y, hy, rfl⟩ := List.mem_map.1 hx
  have a := h.near y hy
  omega
 rwa [List.length_map, List.length_map] at this
theorem MetOk.put {nv : Nat} {m : MV} (h : MetOk nv m) {x : Int × Int} (hx : (0 ≤ x.1 ∧ x.1 < (nv : Int)) ∧ -50 ≤ x.2 ∧ x.2 ≤ 50) : MetOk nv (mput (.pr .int .int) .int x 1 m) := by
 refine ⟨zZn (kt := .pr .int .int) (vt := .int) lkey_pr h.nodup, fun y hy => ?_, fun y k hy => ?_⟩
 ·rcases (zQj (kt := .pr .int .int) (vt := .int) lkey_pr m).1 hy with rfl | hy
  ·exact hx
  ·exact h.near y hy
 ·by_cases e : y = x
  ·subst e
   rw [zDe (kt := .pr .int .int) (vt := .int) lkey_pr] at hy
   exact (Option.some.inj hy).symm
  ·rw [zEe (kt := .pr .int .int) (vt := .int) lkey_pr e] at hy; exact h.one y k hy
def metPut (vars vs : List Int) (m : MV) : MV := vars.foldl (fun m v => mput (.pr .int .int) .int (v, vs.getD v.toNat 0) 1 m) m
theorem z5j {vars vs : List Int} {m : MV} {v : Int} : metPut (vars ++ [v]) vs m = mput (.pr .int .int) .int (v, vs.getD v.toNat 0) 1 (metPut vars vs m) := by rw [metPut, List.foldl_append]; rfl
theorem zbz {vs : List Int} {m : MV} {x : Int × Int} (vars : List Int) : x ∈ (metPut vars vs m).map Prod.fst ↔ x ∈ m.map Prod.fst ∨ ∃ v ∈ vars, x = (v, vs.getD v.toNat 0) := by
 refine zrb (C := fun vars => x ∈ (metPut vars vs m).map Prod.fst ↔ x ∈ m.map Prod.fst ∨ ∃ v ∈ vars, x = (v, vs.getD v.toNat 0)) (by simp [metPut]) (fun l a ih => ?_) vars
 rw [z5j, zQj (kt := .pr .int .int) (vt := .int) lkey_pr, ih]
 constructor
 ·rintro (h | h | ⟨v, hv, h⟩)
  ·exact .inr ⟨a, by simp, h⟩
  ·exact .inl h
  ·exact .inr ⟨v, by simp [hv], h⟩
 ·rintro (h | ⟨v, hv, h⟩)
  ·exact .inr (.inl h)
  ·rcases List.mem_append.1 hv with hv | hv
   ·exact .inr (.inr ⟨v, hv, h⟩)
   ·rw [List.mem_singleton.1 hv] at h; exact .inl h
theorem zNo {nv : Nat} {vs : List Int} {m : MV} (h : MetOk nv m) (hn : ∀ u : Nat, -50 ≤ vs.getD u 0 ∧ vs.getD u 0 ≤ 50) (vars : List Int) : (∀ v ∈ vars, 0 ≤ v ∧ v < (nv : Int)) → MetOk nv (metPut vars vs m) := by
 refine zrb (C := fun vars => (∀ v ∈ vars, 0 ≤ v ∧ v < (nv : Int)) → MetOk nv (metPut vars vs m)) (fun _ => h) (fun l a ih hv => ?_) vars
 rw [z5j]
 exact (ih fun v h => hv v (by simp [h])).put ⟨hv a (by simp), hn _⟩
abbrev hpW (c : ConD) (s : List (List Int)) (vars vs : List Int) (m : MV) : List (Nat × HObj) := [(1000, .cells [.int .i64 c.kind, .sl .int c.vars, .sl .int c.consts, .int .i64 c.n, .sl (.list .int) c.rows, .sl .lit c.lits, dS s, .sl .int vars, .own 2000, .own 1001]), (2000, .row 3 .int vs), (1001, .mp (.pr .int .int) .int m)]
structure PostW (c : ConD) (s : List (List Int)) (vars r vs : List Int) (m : MV) (vs' : List Int) (m' : MV) : Prop where
 len : vs'.length = vs.length
 near : ∀ u : Nat, -50 ≤ vs'.getD u 0 ∧ vs'.getD u 0 ≤ 50
 same : ∀ u : Nat, (∀ v ∈ r, v.toNat ≠ u) → vs'.getD u 0 = vs.getD u 0
 ok : MetOk s.length m'
 mem : ∀ x : Int × Int, x ∈ m'.map Prod.fst ↔ x ∈ m.map Prod.fst ∨ Part c s vars r vs x
theorem zcz {c : ConD} {s : List (List Int)} {vars : List Int} (hs : GoodS s s.length) (hnv : s.length ≤ 6) (hv : ∀ v ∈ vars, 0 ≤ v ∧ v < s.length) (hnd : vars.Nodup) {i : Nat} (hi : i < vars.length) {vs0 : List Int} {m0 : MV} (hl0 : vs0.length = s.length)
  (rec : ∀ (vs : List Int) (m : MV), vs.length = s.length → (∀ u : Nat, -50 ≤ vs.getD u 0 ∧ vs.getD u 0 ≤ 50) → MetOk s.length m → ∃ vs' m', SatH Tryz.prog zH [.ptr 1000 0, dI ((i + 1 : Nat) : Int)] (hpW c s vars vs m) (.tup []) (hpW c s vars vs' m') ∧ PostW c s vars (vars.drop (i + 1)) vs m vs' m') :
  ∀ (e j : Nat), j + e = (s.getD vars[i].toNat []).length → ∀ (vs : List Int) (m : MV), vs.length = s.length → (∀ u : Nat, -50 ≤ vs.getD u 0 ∧ vs.getD u 0 ≤ 50) → (∀ u : Nat, (∀ v ∈ vars.drop i, v.toNat ≠ u) → vs.getD u 0 = vs0.getD u 0) → MetOk s.length m →
   (∀ x : Int × Int, x ∈ m.map Prod.fst ↔ x ∈ m0.map Prod.fst ∨ ∃ n ∈ (s.getD vars[i].toNat []).take j, Part c s vars (vars.drop (i + 1)) (vs0.set vars[i].toNat n) x) →
   ∃ vs' m' n, z8h s vars (i : Int) (fun d h1 => d = .tup [] ∧ h1 = hpW c s vars vs' m') n (j : Int) c.kind c.vars c.consts c.n c.rows c.lits s vars m vs ∧ PostW c s vars (vars.drop i) vs0 m0 vs' m' := by
 have hvi := hv _ (List.getElem_mem hi)
 have hdr : vars.drop i = vars[i] :: vars.drop (i + 1) := List.drop_eq_getElem_cons hi
 have hnd2 : (vars[i] :: vars.drop (i + 1)).Nodup := by rw [← hdr]; exact hnd.sublist (List.drop_sublist ..)
 rw [List.nodup_cons] at hnd2
 have hrow := hs.row vars[i].toNat
 have hnr := hs.near vars[i].toNat
 have hat : at' (.list .int) s ((at' .int vars (i : Int).toNat).toNat) = s.getD vars[i].toNat [] := by rw [at_nat (t := .int) hi]; rfl
 have hpc : ∀ x, Part c s vars (vars.drop i) vs0 x ↔ ∃ n ∈ s.getD vars[i].toNat [], Part c s vars (vars.drop (i + 1)) (vs0.set vars[i].toNat n) x := fun x => by
  rw [hdr]
  exact zgy hvi.1 (by omega) (fun u hu => (hv u (List.mem_of_mem_drop hu)).1) hnd2.1
 generalize hR : s.getD vars[i].toNat [] = row at hrow hnr hat hpc
 intro e
 induction e with
 | zero =>
  intro j hj vs m hl hnear hsame hok hmem
  refine ⟨vs, m, 1, ?_, hl.trans hl0.symm, hnear, hsame, hok, fun x => ?_⟩
  ·rw [zuo, hat, show j = row.length by omega, sel_end]
   exact ⟨rfl, rfl⟩
  ·rw [hmem x, show j = row.length by omega, List.take_length, hpc x]
 | succ e ih =>
  intro j hj vs m hl hnear hsame hok hmem
  have hjl : j < row.length := by omega
  have hvl : vars[i].toNat < vs.length := by omega
  have hw : w64 ((j : Int) + 1) = ((j + 1 : Nat) : Int) := w64_up (by omega)
  have hwi : w64 ((i : Int) + 1) = ((i + 1 : Nat) : Int) := w64_up (by
   have := zgc hnd (lo := 0) (n := s.length) fun x hx => by have := hv x hx; omega
   omega)
  have hset : ∀ u : Nat, (vs.set vars[i].toNat row[j]).getD u 0 = if u = vars[i].toNat then row[j] else vs.getD u 0 := fun u => zk hvl
  obtain ⟨vs1, m1, h1, h2⟩ := rec (vs.set vars[i].toNat row[j]) m (by rw [List.length_set]; exact hl) (fun u => by
   rw [hset u]
   split
   ·exact hnr _ (List.getElem_mem hjl)
   ·exact hnear u) hok
  obtain ⟨vs', m', n, h3, h4⟩ := ih (j + 1) (by omega) vs1 m1 (by rw [h2.len, List.length_set]; exact hl) h2.near (fun u hu => by
   rw [h2.same u fun v hv => hu v (by rw [hdr]; exact List.mem_cons_of_mem _ hv), hset u, if_neg fun e => hu vars[i] (by rw [hdr]; exact List.mem_cons_self ..) e.symm]
   exact hsame u hu) h2.ok fun x => by
    have hp : Part c s vars (vars.drop (i + 1)) (vs.set vars[i].toNat row[j]) x ↔ Part c s vars (vars.drop (i + 1)) (vs0.set vars[i].toNat row[j]) x := by
     refine zfy (by rw [List.length_set, List.length_set, hl, hl0]) fun u hu => ?_
     rw [hset u, zk (by omega)]
     split
     ·rfl
     ·rename_i e
      refine hsame u fun v hv => ?_
      rw [hdr] at hv
      rcases List.mem_cons.1 hv with rfl | hv
      ·exact fun e2 => e e2.symm
      ·exact hu v hv
    rw [h2.mem x, hmem x, hp, ← List.take_append_getElem hjl]
    simp only [List.mem_append, List.mem_singleton]
    constructor
    ·rintro ((h | ⟨n, hn, h⟩) | h)
     ·exact .inl h
     ·exact .inr ⟨n, .inl hn, h⟩
     ·exact .inr ⟨_, .inr rfl, h⟩
    ·rintro (h | ⟨n, hn | hn, h⟩)
     ·exact .inl (.inl h)
     ·exact .inl (.inr ⟨n, hn, h⟩)
     ·rw [hn] at h; exact .inr h
  refine ⟨vs', m', n + 1, ?_, h4⟩
  rw [zuo, hat, sel_lt hjl, at_nat (t := .int) hi, at_nat (t := .int) hjl, hwi, hw]
  exact ⟨inb_nat hjl, inb_nat hi, inb_iff.2 (by omega), vs1, m1, h1, h3⟩
theorem zdz {c : ConD} {s : List (List Int)} {vars : List Int} (hc : RightC c s.length) (hs : GoodS s s.length) (hv : ∀ v ∈ vars, 0 ≤ v ∧ v < s.length) (hnd : vars.Nodup) :
  ∀ (d i : Nat), i + d = vars.length → ∀ (vs : List Int) (m : MV), vs.length = s.length → (∀ u : Nat, -50 ≤ vs.getD u 0 ∧ vs.getD u 0 ≤ 50) → MetOk s.length m → ∃ vs' m', SatH Tryz.prog zH [.ptr 1000 0, dI (i : Int)] (hpW c s vars vs m) (.tup []) (hpW c s vars vs' m') ∧ PostW c s vars (vars.drop i) vs m vs' m' := by
 have hnv := hc.nv6
 have hvl : vars.length ≤ 6 := by
  have := zgc hnd (lo := 0) (n := s.length) fun x hx => by have := hv x hx; omega
  omega
 intro d
 induction d with
 | zero =>
  intro i hi vs m hl hnear hok
  have hgv : GoodV vs s.length := ⟨hl, fun n hn => by
   obtain ⟨u, hu, rfl⟩ := List.getElem_of_mem hn
   have := hnear u
   rwa [getD_at _ hu] at this⟩
  have hd : vars.drop i = [] := List.drop_eq_nil_of_le (by omega)
  have hpn : ∀ x, Part c s vars (vars.drop i) vs x ↔ trueC c vs = true ∧ ∃ v ∈ vars, x = (v, vs.getD v.toNat 0) := fun x => by rw [hd]; exact zey
  cases ht : trueC c vs with
  | false =>
   refine ⟨vs, m, z1j c.kind c.vars c.consts c.n c.rows c.lits s vars vs m (i : Int) fun _ _ => ?_, rfl, hnear, fun _ _ => rfl, hok, fun x => ?_⟩
   ·rw [z0j]
    refine dt (by omega) (call1 (zwe hc hgv) (bf ht ?_))
    exact ⟨rfl, rfl⟩
   ·rw [hpn, ht]; simp
  | true =>
   refine ⟨vs, metPut vars vs m, z1j c.kind c.vars c.consts c.n c.rows c.lits s vars vs m (i : Int) fun _ _ => ?_, rfl, hnear, fun _ _ => rfl, zNo hok hnear vars hv, fun x => ?_⟩
   ·rw [z0j]
    refine dt (by omega) (call1 (zwe hc hgv) (bt ht ?_))
    refine up (I := fun n v a => z7h c.kind c.vars c.consts c.n c.rows c.lits s vars vs _ n v a) 0 vars.length rfl (Nat.zero_le _) (by omega) (fun k a => a = metPut (vars.take k) vs m) rfl fun n k a _ hk ha hn => ?_
    subst ha
    rw [zvy]
    by_cases h : k < vars.length
    ·have hvk := hv _ (List.getElem_mem h)
     have hml := (zNo hok hnear (vars.take k) fun v hv2 => hv v (List.mem_of_mem_take hv2)).length
     rw [sel_lt h, at_nat (t := .int) h]
     refine ⟨inb_nat h, inb_iff.2 (by omega), decide_eq_true (by omega), hn h _ ?_⟩
     rw [← List.take_append_getElem h, z5j]; rfl
    ·have hk' : k = vars.length := by omega
     subst hk'
     rw [sel_end, List.take_length]
     exact ⟨rfl, rfl⟩
   ·rw [hpn, ht, zbz]; simp
 | succ d ih =>
  intro i hi vs m hl hnear hok
  have hil : i < vars.length := by omega
  have hvi := hv _ (List.getElem_mem hil)
  obtain ⟨vs', m', n, h1, h2⟩ := zcz (c := c) (m0 := m) hs hnv hv hnd hil hl (fun vs m a b c => ih (i + 1) (by omega) vs m a b c) _ 0 (Nat.zero_add _) vs m hl hnear (fun _ _ => rfl) hok fun x => by simp
  refine ⟨vs', m', z1j c.kind c.vars c.consts c.n c.rows c.lits s vars vs m (i : Int) fun _ _ => ?_, h2⟩
  rw [z0j]
  refine df (by omega) ⟨inb_nat hil, ?_, n, h1⟩
  rw [at_nat (t := .int) hil]
  exact inb_iff.2 hvi
def EachOk (c : ConD) (s : List (List Int)) (m : MV) : Prop := MetOk s.length m ∧ ∀ v n : Int, (v, n) ∈ m.map Prod.fst ↔ v ∈ scopeC c s.length ∧ May (trueC c) s v.toNat n
theorem zez {c : ConD} {s : List (List Int)} (hc : RightC c s.length) (hs : GoodS s s.length) (hf : failS s = false) :
  ∃ vs m, EachOk c s m ∧ SatH Tryz.prog z3c [dC c, dS s] [] (.clo zi none [.iptr [.iptr [.int .i64 c.kind, .sl .int c.vars, .sl .int c.consts, .int .i64 c.n, .sl (.list .int) c.rows, .sl .lit c.lits, dS s, .sl .int (scopeC c s.length), .sl .int vs, .mp (.pr .int .int) .int m] 0] 0]) [] := by
 have hnv := hc.nv6
 have hz : ∀ u : Nat, (List.replicate s.length (0 : Int)).getD u 0 = 0 := fun u => by
  by_cases h : u < s.length
  ·rw [getD_at _ (by rw [List.length_replicate]; exact h), List.getElem_replicate]
  ·exact zj (by rw [List.length_replicate]; omega)
 obtain ⟨vs, m, h1, h2⟩ := zdz (c := c) (s := s) (vars := scopeC c s.length) hc hs (fun v hv => zsb v hv) zGe _ 0 (Nat.zero_add _) (List.replicate s.length 0) [] (List.length_replicate ..) (fun u => by rw [hz u]; decide) zaz
 refine ⟨vs, m, ⟨h2.ok, fun v n => ?_⟩, zky c s fun ok _ => ?_⟩
 ·rw [h2.mem, List.drop_zero, zYj hc hf (List.length_replicate ..)]; simp
 ·rw [zjy]
  refine call1 (zZh hc) ?_
  rw [Int.toNat_natCast]
  have hr : room .int s.length = true := room_of (t := .int) (by show _ * 8 ≤ _; omega)
  have h0 : (0 : Int) ≤ (s.length : Int) := by omega
  have hE : ∃ w2 : List Int, ∃ w3 : List ((Int × Int) × Int), SatH Tryz.prog zH [.ptr 1000 0, dI 0] [(1000, .cells [.int .i64 c.kind, .sl .int c.vars, .sl .int c.consts, .int .i64 c.n, .sl (.list .int) c.rows, .sl .lit c.lits, .sl (.list .int) s, .sl .int (scopeC c s.length), .own 2000, .own 1001]), (2000, .row 3 .int (List.replicate s.length (Ty.dflt .int))), (1001, .mp (.pr .int .int) .int ([] : List ((Int × Int) × Int)))] (.tup []) [(1000, .cells [.int .i64 c.kind, .sl .int c.vars, .sl .int c.consts, .int .i64 c.n, .sl (.list .int) c.rows, .sl .lit c.lits, .sl (.list .int) s, .sl .int (scopeC c s.length), .own 2000, .own 1001]), (2000, .row 3 .int w2), (1001, .mp (.pr .int .int) .int w3)] ∧
    (D.clo zi none [.iptr [.iptr [.int .i64 c.kind, .sl .int c.vars, .sl .int c.consts, .int .i64 c.n, .sl (.list .int) c.rows, .sl .lit c.lits, .sl (.list .int) s, .sl .int (scopeC c s.length), .sl .int w2, .mp (.pr .int .int) .int w3] 0] 0] = D.clo zi none [.iptr [.iptr [.int .i64 c.kind, .sl .int c.vars, .sl .int c.consts, .int .i64 c.n, .sl (.list .int) c.rows, .sl .lit c.lits, dS s, .sl .int (scopeC c s.length), .sl .int vs, .mp (.pr .int .int) .int m] 0] 0] ∧ ([] : List (Nat × HObj)) = []) := ⟨vs, m, h1, rfl, rfl⟩
  repeat' (first | exact hE | exact hr | exact h0 | exact rfl | apply And.intro)
theorem zfz {c : ConD} {s : List (List Int)} {vs : List Int} {m : MV} (h : EachOk c s m) {v n : Int} (hv : v ∈ scopeC c s.length) {ks : List D} :
  Sat Tryz.prog zi [dI v, dI n, .iptr [.iptr [.int .i64 c.kind, .sl .int c.vars, .sl .int c.consts, .int .i64 c.n, .sl (.list .int) c.rows, .sl .lit c.lits, dS s, .sl .int (scopeC c s.length), .sl .int vs, .mp (.pr .int .int) .int m] 0] 0] (dB (mayB (trueC c) s v.toNat n)) :=
 zxy v n c s (scopeC c s.length) vs m fun ok => by
  rw [zwy]
  show dB _ = dB _
  congr 1
  have hg : mgetD (.pr .int .int) .int (v, n) m = 1 ↔ (v, n) ∈ m.map Prod.fst := by
   rw [zfc (kt := .pr .int .int) (vt := .int) lkey_pr]
   constructor
   ·intro e
    rw [mgetD] at e
    cases e2 : mget (.pr .int .int) .int (v, n) m with
    | none => rw [e2] at e; exact absurd e (by decide)
    | some k => exact ⟨k, rfl⟩
   ·rintro ⟨k, e⟩
    rw [mgetD, e, h.1.one _ _ e]; rfl
  rw [Bool.eq_iff_iff, decide_eq_true_iff, zA]
  exact hg.trans ((h.2 v n).trans ⟨fun h => h.2, fun h => ⟨hv, h⟩⟩)
end Go.Proofs.YtajnbkhgnppckaaGreatDoor
/- What is left by one constraint: the program's filter. -/
namespace Go.Proofs.YtajnbkhgnppckaaGreatDoor
open Go.RowKit
set_option linter.unusedVariables false
set_option linter.unusedSimpArgs false
theorem zOo : ∀ {l l' : List Int}, l'.Nodup → l' ⊆ l → ¬l.Nodup → l'.length < l.length
 | [], l', _, _, h => absurd List.nodup_nil h
 | x :: l, l', h1, h2, h3 => by
  by_cases hx : x ∈ l
  ·have : l'.length ≤ l.length := h1.length_le_of_subset fun y hy => by
    rcases List.mem_cons.1 (h2 hy) with rfl | h
    ·exact hx
    ·exact h
   rw [List.length_cons]; omega
  ·have h4 : ¬l.Nodup := fun h => h3 (List.nodup_cons.2 ⟨hx, h⟩)
   have h5 := zOo (l := l) (l' := l'.erase x) (h1.erase x) (fun y hy => by
    have hy2 := List.mem_of_mem_erase hy
    rcases List.mem_cons.1 (h2 hy2) with rfl | h
    ·exact absurd hy (by rw [h1.mem_erase_iff]; exact fun e => e.1 rfl)
    ·exact h) h4
   have h6 : l'.length ≤ (l'.erase x).length + 1 := by rw [List.length_erase]; split <;> omega
   rw [List.length_cons]; omega
theorem zgz {l : List Int} : decide ((Lib.compact (sortI l)).length < l.length) = !decide l.Nodup := by
 have hs := zMn (sort_le l)
 have hn : (Lib.compact (sortI l)).Nodup := hs.imp fun {a b} h => by omega
 have hm : ∀ x, x ∈ Lib.compact (sortI l) ↔ x ∈ l := fun x => by rw [zEj]; exact (List.mergeSort_perm _ _).mem_iff
 by_cases h : l.Nodup
 ·rw [decide_eq_true h]
  exact decide_eq_false (by have := h.length_le_of_subset fun x hx => (hm x).2 hx; omega)
 ·rw [decide_eq_false h]
  exact decide_eq_true (zOo hn (fun x hx => (hm x).1 hx) h)
theorem zhz (l : List Int) : Sat Tryz.prog z2f [.sl .int l] (dB (!decide l.Nodup)) :=
 zqy l fun ok => by
  rw [zpy]
  refine ⟨_, zyj l, _, zCj _, _, zDj _, ?_⟩
  rw [lt_nat, zgz]
theorem ziz {v n : Int} {sc : List Int} {g : FuncId} {caps : List D} (he : Ent Tryz.prog g) {b : Bool} (hg : hasI sc v = true → Sat Tryz.prog g (dI v :: dI n :: caps) (dB b)) (hb : hasI sc v = false → b = true) :
  Sat Tryz.prog zEb [dI v, dI n, .iptr [.sl .int sc] 0, .iptr [.clo g none caps] 0] (dB b) :=
 Sat.iclo (pre := [_, _, _]) (zuy v n sc g caps fun ok => by
  rw [zty]
  refine call1 (zoe (a := v)) ?_
  show sel (!hasI sc v) _ _
  refine za (fun e => ?_) fun e => ⟨he, ?_⟩
  ·rw [hb (by simpa using e)]
  ·exact call1 (hg (by simpa using e)) rfl)
theorem z6j {c : ConD} {nv v : Nat} (hv : v < nv) : hasI (scopeC c nv) (v : Int) = inC c v := by
 rw [Bool.eq_iff_iff, zn, zM]
 exact ⟨fun h => h.2, fun h => ⟨by omega, h⟩⟩
theorem zPo {c : ConD} {nv : Nat} (hc : RightC c nv) (hl : c.lits = []) {v : Int} (h : v ∈ scopeC c nv) : v ∈ c.vars := by
 rcases inC_of (zM.1 h).2 with h | ⟨l, h, _⟩
 ·exact h
 ·rw [hl] at h; cases h
theorem z7j {c : ConD} {nv : Nat} (hc : RightC c nv) (hk : c.kind ≤ 8) : c.lits = [] := by
 have hf := hc.form
 have h1 := hc.kind.1
 have : c.kind = 1 ∨ c.kind = 2 ∨ c.kind = 3 ∨ c.kind = 4 ∨ c.kind = 5 ∨ c.kind = 6 ∨ c.kind = 7 ∨ c.kind = 8 := by omega
 rcases this with e | e | e | e | e | e | e | e <;> simp [formB, e] at hf <;> simp_all
theorem zjz {c : ConD} {nv : Nat} (hc : RightC c nv) (h : scopeC c nv = []) : RightC c 0 ∧ c.vars = [] ∧ c.lits = [] := by
 have hv : c.vars = [] := List.eq_nil_iff_forall_not_mem.2 fun v hv => by
  have h1 := hc.vars v hv
  have : v ∈ scopeC c nv := zM.2 ⟨h1, inC_var hv⟩
  rw [h] at this; cases this
 have hl : c.lits = [] := List.eq_nil_iff_forall_not_mem.2 fun l hl => by
  have h1 := (zJ.1 (hc.lits l hl)).1
  have : l.var ∈ scopeC c nv := zM.2 ⟨h1, inC_lit hl⟩
  rw [h] at this; cases this
 exact ⟨⟨Nat.zero_le _, hc.kind, hc.many, hc.form, fun v h => (by rw [hv] at h; cases h), hc.consts, hc.n, hc.rows, fun l h => (by rw [hl] at h; cases h)⟩, hv, hl⟩
theorem zLe {c : ConD} {s : List (List Int)} (hc : RightC c s.length) (hs : GoodS s s.length) : Sat Tryz.prog z3b [dC c, dS s] (dS (filterS c s)) :=
 ziy c s fun ok => by
  rw [zhy]
  refine call1 (zv s) (za (fun e => ?_) fun e => ?_)
  ·rw [filterS, if_pos e]
   exact call1 (zue s) rfl
  have hf : failS s = false := e
  rw [filterS, if_neg (by rw [hf]; decide)]
  refine call1 (zZh hc) ?_
  by_cases h0 : scopeC c s.length = []
  ·obtain ⟨hc0, _⟩ := zjz hc h0
   refine dt (by rw [h0]; rfl) (call1 (zwe (vs := []) hc0 ⟨rfl, fun n hn => (by cases hn)⟩) (za (fun e => ?_) fun e => ?_))
   ·rw [if_pos h0, if_pos e]; exact call1 (zue s) rfl
   ·rw [if_pos h0, if_neg (by rw [e]; decide)]; exact call1 (zWh s) rfl
  refine df (by
   have : (scopeC c s.length).length ≠ 0 := fun e => h0 (List.length_eq_zero_iff.1 e)
   omega) ?_
  rw [if_neg h0]
  have key : ∀ {g : FuncId} {caps : List D}, Ent Tryz.prog g → (∀ (v n : Int), v ∈ scopeC c s.length → n ∈ s.getD v.toNat [] → Sat Tryz.prog g (dI v :: dI n :: caps) (dB (mayB (trueC c) s v.toNat n))) →
    Sat Tryz.prog zG [dS s, .clo zEb none [.iptr [.sl .int (scopeC c s.length)] 0, .iptr [.clo g none caps] 0]] (dS (keepS (fun v n => !inC c v || mayB (trueC c) s v n) s)) := fun {g caps} he hg => by
   refine zhd (f := fun v n => !inC c v || mayB (trueC c) s v n) zjw fun v hv n hn => ?_
   refine ziz he (fun h => ?_) fun h => ?_
   ·have h1 := zn.1 h
    rw [z6j hv] at h
    have h2 := hg v n h1 (by rw [Int.toNat_natCast, getD_at _ hv]; exact hn)
    rw [Int.toNat_natCast] at h2
    rw [h]; exact h2
   ·rw [z6j hv] at h
    rw [h]; rfl
  have hEach : ∃ e21 : ConD, ∃ e22 : List (List Int), ∃ e23 : List Int, ∃ e24 : List Int, ∃ e25 : List ((Int × Int) × Int), SatH Tryz.prog z3c [dC c, dS s] [] (.clo zi none [.iptr [.iptr [.int .i64 e21.kind, .sl .int e21.vars, .sl .int e21.consts, .int .i64 e21.n, .sl (.list .int) e21.rows, .sl .lit e21.lits, .sl (.list .int) e22, .sl .int e23, .sl .int e24, .mp (.pr .int .int) .int e25] 0] 0]) [] ∧
    Call1 Tryz.prog zG [dS s, .clo zEb none [.iptr [.sl .int (scopeC c s.length)] 0, .iptr [.clo zi none [.iptr [.iptr [.int .i64 e21.kind, .sl .int e21.vars, .sl .int e21.consts, .int .i64 e21.n, .sl (.list .int) e21.rows, .sl .lit e21.lits, .sl (.list .int) e22, .sl .int e23, .sl .int e24, .mp (.pr .int .int) .int e25] 0] 0]] 0]] (.list (.list .int)) fun s26 => D.sl (.list .int) s26 = dS (keepS (fun v n => !inC c v || mayB (trueC c) s v n) s) := by
   obtain ⟨vs, m, h1, h2⟩ := zez hc hs hf
   exact ⟨c, s, scopeC c s.length, vs, m, h2, call1 (key zpw fun v n hv hn => zfz (ks := []) h1 hv) rfl⟩
  refine za (fun e => ?_) fun e => za (fun e2 => ?_) fun e2 => ?_
  ·have hk : c.kind ≤ 3 := of_decide_eq_true e
   exact ⟨termsC c, linM s (termsC c), c, z1y hc hk hs, call1 (key zqw fun v n hv hn => z4y hc hk hs hf (zPo hc (z7j hc (by omega)) hv) hn) rfl⟩
  ·have hk : c.kind = 4 := of_decide_eq_true e2
   refine call1 (zhz c.vars) (za (fun e3 => ?_) fun e3 => hEach)
   have hnd : c.vars.Nodup := by simpa using e3
   exact ⟨s, c, z8y c s, call1 (key ztw fun v n hv hn => z9y hc hk hnd hs hf (zPo hc (z7j hc (by omega)) hv) hn) rfl⟩
  ·exact hEach
def filtE (m : MdlD) (con : Int) (s : List (List Int)) : Int := if readyE m [s] ≠ 0 then readyE m [s] else if con < 0 ∨ (m.cons.length : Int) ≤ con then 5 else 0
theorem filtE_1 {m : MdlD} {con : Int} {s : List (List Int)} (h : readyE m [s] ≠ 0) : filtE m con s = readyE m [s] := if_pos h
theorem filtE_2 {m : MdlD} {con : Int} {s : List (List Int)} (h : readyE m [s] = 0) (h2 : con < 0 ∨ (m.cons.length : Int) ≤ con) : filtE m con s = 5 := by rw [filtE, if_neg (not_not_intro h), if_pos h2]
theorem filtE_3 {m : MdlD} {con : Int} {s : List (List Int)} (h : readyE m [s] = 0) (h2 : 0 ≤ con ∧ con < (m.cons.length : Int)) : filtE m con s = 0 := by rw [filtE, if_neg (not_not_intro h), if_neg (by omega)]
theorem zkz {m : MdlD} {con : Int} {s : List (List Int)} (h : filtE m con s = 0) : readyE m [s] = 0 ∧ 0 ≤ con ∧ con < (m.cons.length : Int) := by
 by_cases h1 : readyE m [s] = 0
 ·by_cases h2 : con < 0 ∨ (m.cons.length : Int) ≤ con
  ·rw [filtE_2 h1 h2] at h; exact absurd h (by decide)
  ·exact ⟨h1, by omega⟩
 ·rw [filtE_1 h1] at h; exact absurd h h1
theorem atE_of {m : MdlD} {con : Int} (h : checkM m = 0) (h2 : 0 ≤ con ∧ con < (m.cons.length : Int)) : atE m con = 0 := by rw [atE, if_neg (not_not_intro h), if_neg (by omega)]
end Go.Proofs.YtajnbkhgnppckaaGreatDoor
/- What is left by one constraint: the document's answer, by all choices. -/
namespace Go.Proofs.YtajnbkhgnppckaaGreatDoor
open Go.RowKit
set_option linter.unusedVariables false
set_option linter.unusedSimpArgs false
theorem zQo {s : List (List Int)} {nv : Nat} (hs : GoodS s nv) : ∀ (r vs : List Int) (n : Nat), (∀ v ∈ r, v.toNat < vs.length) → (∀ u : Nat, -50 ≤ vs.getD u 0 ∧ vs.getD u 0 ≤ 50) → ∀ u : Nat, -50 ≤ (chosenV s r vs n).1.getD u 0 ∧ (chosenV s r vs n).1.getD u 0 ≤ 50
 | [], vs, n, _, h, u => h u
 | v :: r, vs, n, hl, h, u => by
  rw [chosenV]
  refine zQo hs r _ _ (fun w hw => by rw [List.length_set]; exact hl w (List.mem_cons_of_mem _ hw)) (fun w => ?_) u
  rw [zk (hl v (List.mem_cons_self ..))]
  split
  ·by_cases hx : n % (s.getD v.toNat []).length < (s.getD v.toNat []).length
   ·rw [getD_at _ hx]; exact hs.near _ _ (List.getElem_mem hx)
   ·rw [zj (by omega)]; decide
  ·exact h w
theorem zlz {s : List (List Int)} {vars vs : List Int} {n : Nat} (hv : ∀ v ∈ vars, 0 ≤ v ∧ v < s.length ∧ s.getD v.toNat [] ≠ []) (hl : vs.length = s.length) (hn : n ≤ 1000000000000000) (hvl : vars.length ≤ 6) :
  SatH Tryz.prog z8f [dS s, .sl .int vars, .own 1000, dI (n : Int)] [(1000, .row 3 .int vs)] (.bool (decide ((chosenV s vars vs n).2 = 0))) [(1000, .row 3 .int (chosenV s vars vs n).1)] :=
 zHv s vars vs n fun _ _ => by
  rw [zGv]
  refine up (I := fun k v (a : Nat × List Int) => zke s vars _ k (a.1 : Int) v a.2) (a := (n, vs)) 0 vars.length rfl (Nat.zero_le _) (by omega) (fun k a => chosenV s (vars.drop k) a.2 a.1 = chosenV s vars vs n ∧ a.1 ≤ 1000000000000000 ∧ a.2.length = s.length) ⟨by rw [List.drop_zero], hn, hl⟩ fun k i a _ hk ha hx => ?_
  obtain ⟨n1, l3⟩ := a
  obtain ⟨h1, h2, h3⟩ := ha
  have h3 : l3.length = s.length := h3
  show zke s vars _ (k + 1) (n1 : Int) (i : Int) l3
  rw [zFv]
  by_cases h : i < vars.length
  ·obtain ⟨q1, q2, q3⟩ := hv _ (List.getElem_mem h)
   have hat : at' (.list .int) s vars[i].toNat = s.getD vars[i].toNat [] := rfl
   rw [sel_lt h, at_nat (t := .int) h, hat]
   rw [List.drop_eq_getElem_cons h, chosenV] at h1
   have hne : (s.getD vars[i].toNat []).length ≠ 0 := fun e => q3 (List.length_eq_zero_iff.1 e)
   have hok := hx h (n1 / (s.getD vars[i].toNat []).length, l3.set vars[i].toNat ((s.getD vars[i].toNat []).getD (n1 % (s.getD vars[i].toNat []).length) 0)) ⟨h1, Nat.le_trans (Nat.div_le_self ..) h2, by rw [List.length_set]; exact h3⟩
   generalize s.getD vars[i].toNat [] = row at hne hok ⊢
   have hm := Nat.mod_lt n1 (Nat.pos_of_ne_zero hne)
   have hd : n1 / row.length ≤ 1000000000000000 := Nat.le_trans (Nat.div_le_self ..) h2
   rw [← Int.ofNat_tmod, ← Int.ofNat_tdiv, Int.toNat_natCast]
   generalize n1 / row.length = dq at hd hok ⊢
   generalize n1 % row.length = mq at hm hok ⊢
   rw [w64_eq (n := (dq : Int)) (by omega) (by omega)]
   exact ⟨inb_nat h, inb_iff.2 ⟨q1, q2⟩, df (by omega) ⟨inb_nat h, by omega, inb_nat hm, inb_iff.2 (by omega), by omega, hok⟩⟩
  ·have hi : i = vars.length := by omega
   subst hi
   rw [List.drop_length, chosenV] at h1
   rw [sel_end, ← h1]
   refine ⟨?_, rfl⟩
   show D.bool _ = D.bool _
   congr 1
   exact decide_eq_decide.2 ⟨fun e => by omega, fun e => by omega⟩
theorem zRo (l : List LitD) (x : LitD) : Sat Tryz.prog zFb [.sl .lit l, dL x] (dB (l.any fun y => decide (y = x))) :=
 zJv l x fun ok => by
  rw [zIv]
  refine any0 (I := fun n v => zHh l x _ n v) l (fun y => decide (y = x)) (okLen (t := .lit) (ok1 ok)) (X := dB true = dB (l.any fun y => decide (y = x))) (Y := dB false = dB (l.any fun y => decide (y = x))) anyB (fun i k h h1 h2 => ?_) fun i h => ?_
  ·rw [zTm, sel_lt h, at_nat (t := .lit) h]
   exact ⟨inb_nat h, za h1 h2⟩
  ·rw [zTm, sel_end]; exact h
theorem z8j {l : List LitD} {x : LitD} : (l.any fun y => decide (y = x)) = true ↔ x ∈ l := by
 rw [List.any_eq_true]
 exact ⟨fun ⟨y, hy, e⟩ => by rw [← of_decide_eq_true e]; exact hy, fun h => ⟨x, h, decide_eq_true rfl⟩⟩
structure Met (c : ConD) (s : List (List Int)) (zs : List Int) (k : Nat) (met : List LitD) : Prop where
 nodup : met.Nodup
 near : ∀ x ∈ met, (0 ≤ x.var ∧ x.var < 6) ∧ x.op = 0 ∧ -50 ≤ x.n ∧ x.n ≤ 50
 mem : ∀ x, x ∈ met ↔ ∃ j, j < k ∧ trueC c (chosenV s (scopeC c s.length) zs j).1 = true ∧ ∃ v ∈ scopeC c s.length, x = ⟨v, 0, (chosenV s (scopeC c s.length) zs j).1.getD v.toNat 0⟩
theorem zmz {met : List LitD} (h : met.Nodup) (hn : ∀ x ∈ met, (0 ≤ x.var ∧ x.var < 6) ∧ x.op = 0 ∧ -50 ≤ x.n ∧ x.n ≤ 50) : met.length ≤ 606 := by
 have h1 : (met.map fun x => x.var * 101 + x.n + 50).Nodup := zFe h fun x hx y hy e => by
  have a := hn x hx
  have b := hn y hy
  obtain ⟨xv, xo, xn⟩ := x
  obtain ⟨yv, yo, yn⟩ := y
  simp only at a b e
  have e1 : xv = yv := by omega
  have e2 : xn = yn := by omega
  have e3 : xo = yo := by omega
  rw [e1, e2, e3]
 have := zgc h1 (lo := 0) (n := 606) fun x hx => by
  obtain ⟨y, hy, rfl⟩ := List.mem_map.1 hx
  have a := hn y hy
  omega
 rwa [List.length_map] at this
theorem zSo {m : MdlD} {con : Int} {s : List (List Int)} (hat : atE m con = 0) (hst : storeE m s = 0) : Sat Tryz.prog zxc [dM m, dI con, dS s] (dS (filterS (conAt m con) s)) :=
 zjv m con s fun ok => by
  obtain ⟨hm, hcon⟩ := zx hat
  have hc := zcb hat
  have hs := ztb hm hst
  have hl := hs.len
  rw [← hl] at hs
  have hc2 : RightC (conAt m con) s.length := by rw [hl]; exact hc
  have hnv := hc2.nv6
  have hpos : 0 < s.length := by have := hm.some; omega
  rw [ziv]
  refine call1 (zjb s) (za (fun e => ?_) fun e => ?_)
  ·rw [filterS, if_pos e]
  have hf : failS s = false := e
  rw [filterS, if_neg (by rw [hf]; decide)]
  refine ⟨inb_iff.2 hcon, ?_⟩
  show Call1 Tryz.prog z6d [dM m, dC (conAt m con)] (.list .int) fun c2 => _
  refine call1 (zHx m hc) ?_
  rw [← hl]
  refine ⟨rfl, by omega, room_of (t := .int) (by rw [Int.toNat_natCast]; show _ * 8 ≤ _; omega), ?_⟩
  rw [Int.toNat_natCast]
  have hz : ∀ u : Nat, (List.replicate s.length (0 : Int)).getD u 0 = 0 := fun u => by
   by_cases h : u < s.length
   ·rw [getD_at _ (by rw [List.length_replicate]; exact h), List.getElem_replicate]
   ·exact zj (by rw [List.length_replicate]; omega)
  have hzl : (List.replicate s.length (0 : Int)).length = s.length := List.length_replicate ..
  have hzn : ∀ u : Nat, -50 ≤ (List.replicate s.length (0 : Int)).getD u 0 ∧ (List.replicate s.length (0 : Int)).getD u 0 ≤ 50 := fun u => by rw [hz u]; decide
  have goodV : ∀ {vs : List Int}, vs.length = s.length → (∀ u : Nat, -50 ≤ vs.getD u 0 ∧ vs.getD u 0 ≤ 50) → GoodV vs m.vars.length := fun {vs} h1 h2 => ⟨by omega, fun n hn => by
   obtain ⟨u, hu, rfl⟩ := List.getElem_of_mem hn
   have := h2 u
   rwa [getD_at _ hu] at this⟩
  by_cases h0 : scopeC (conAt m con) s.length = []
  ·refine dt (by rw [h0]; rfl) ?_
   have ht : trueC (conAt m con) (List.replicate s.length 0) = trueC (conAt m con) [] := zqb hc2 fun v h1 h2 => by rw [zMj h0 h1] at h2; cases h2
   refine call1 (z3j hc (goodV hzl hzn)) (za (fun e => ?_) fun e => ?_)
   ·rw [if_pos h0, if_pos (ht.symm.trans e)]
   ·rw [if_pos h0, if_neg (by rw [← ht]; show ¬_ = true; rw [show trueC (conAt m con) (List.replicate s.length 0) = false from e]; decide)]
    exact call1 (zGj (by omega)) rfl
  refine df (by
   have : (scopeC (conAt m con) s.length).length ≠ 0 := fun e => h0 (List.length_eq_zero_iff.1 e)
   omega) ?_
  rw [if_neg h0]
  show ∃ n0, zDc s _ (scopeC (conAt m con) s.length) n0 0 (conAt m con).kind (conAt m con).vars (conAt m con).consts (conAt m con).n (conAt m con).rows (conAt m con).lits ([] : List LitD) (List.replicate s.length 0)
  have hscv : ∀ v ∈ scopeC (conAt m con) s.length, 0 ≤ v ∧ v < s.length ∧ s.getD v.toNat [] ≠ [] := fun v hv => by
   have := zsb v hv
   exact ⟨this.1, this.2, zy.1 hf _ (by omega)⟩
  have hscl : (scopeC (conAt m con) s.length).length ≤ 6 := by
   have := zgc (zGe (c := conAt m con) (nv := s.length)) (lo := 0) (n := s.length) fun x hx => by have := zsb x hx; omega
   omega
  have hK : prodS s (scopeC (conAt m con) s.length) ≤ 101 ^ 6 := Nat.le_trans (zmo hs.row _) (Nat.pow_le_pow_right (by decide) hscl)
  have hK1 : (101 : Nat) ^ 6 ≤ 1000000000000000 := by decide
  have hKp : 0 < prodS s (scopeC (conAt m con) s.length) := zlo _ fun v hv => (hscv v hv).2.2
  have hpart : ∀ v n : Int, (∃ j, j < prodS s (scopeC (conAt m con) s.length) ∧ trueC (conAt m con) (chosenV s (scopeC (conAt m con) s.length) (List.replicate s.length 0) j).1 = true ∧ ∃ u ∈ scopeC (conAt m con) s.length, (⟨v, 0, n⟩ : LitD) = ⟨u, 0, (chosenV s (scopeC (conAt m con) s.length) (List.replicate s.length 0) j).1.getD u.toNat 0⟩) ↔ v ∈ scopeC (conAt m con) s.length ∧ May (trueC (conAt m con)) s v.toNat n := fun v n => by
   rw [← zYj hc2 hf hzl, zno hc2 hf hzl]
   constructor
   ·rintro ⟨j, h1, h2, u, h3, h4⟩
    injection h4 with h5 h6 h7
    exact ⟨j, h1, h2, u, h3, by rw [h5, h7]⟩
   ·rintro ⟨j, h1, h2, u, h3, h4⟩
    injection h4 with h5 h7
    exact ⟨j, h1, h2, u, h3, by rw [h5, h7]⟩
  generalize hcc : conAt m con = c at *
  generalize hsc : scopeC c s.length = sc at *
  refine up (I := fun n v (a : List LitD × List Int) => zDc s _ sc n v c.kind c.vars c.consts c.n c.rows c.lits a.1 a.2) (a := (([] : List LitD), List.replicate s.length (0 : Int))) 0 (prodS s sc) rfl (Nat.zero_le _) (by omega)
   (fun k a => Met c s (List.replicate s.length 0) k a.1 ∧ a.2.length = s.length ∧ ∀ u : Nat, -50 ≤ a.2.getD u 0 ∧ a.2.getD u 0 ≤ 50) ⟨⟨List.nodup_nil, fun x hx => (by cases hx), fun x => ⟨fun h => (by cases h), fun ⟨j, h, _⟩ => absurd h (Nat.not_lt_zero _)⟩⟩, hzl, hzn⟩ fun n k a _ hk ha hn => ?_
  obtain ⟨met, vs⟩ := a
  obtain ⟨h1, h2, h3⟩ := ha
  have h1 : Met c s (List.replicate s.length 0) k met := h1
  have h2 : vs.length = s.length := h2
  have h3 : ∀ u : Nat, -50 ≤ vs.getD u 0 ∧ vs.getD u 0 ≤ 50 := h3
  show zDc s _ sc (n + 1) (k : Int) c.kind c.vars c.consts c.n c.rows c.lits met vs
  rw [zhv]
  have hch := zlz (vars := sc) (vs := vs) (n := k) hscv h2 (by omega) hscl
  rw [zio] at hch
  refine ⟨_, _, hch, ?_⟩
  by_cases h : k < prodS s sc
  ·refine dt (Nat.div_eq_of_lt h) ?_
   have hws : (chosenV s sc vs k).1.length = s.length := (zXj _ _ _).trans h2
   have hwn := zQo hs sc vs k (fun v hv => by have := hscv v hv; omega) h3
   have hsame : ∀ v ∈ sc, (chosenV s sc vs k).1.getD v.toNat 0 = (chosenV s sc (List.replicate s.length 0) k).1.getD v.toNat 0 := fun v hv => zoo sc _ _ _ (by rw [h2, hzl]) v hv (by have := hscv v hv; rw [hzl]; omega)
   have ht : trueC c (chosenV s sc vs k).1 = trueC c (chosenV s sc (List.replicate s.length 0) k).1 := zqb hc2 fun v q1 q2 => by
    have := hsame (v : Int) (by rw [← hsc]; exact zM.2 ⟨by omega, q2⟩)
    simpa using this
   generalize hw : (chosenV s sc vs k).1 = ws at hws hwn hsame ht
   refine call1 (z3j hc (goodV hws hwn)) (za (fun e => ?_) fun e => ?_)
   ·have e : trueC c ws = false := by simpa using e
    refine hn h (met, ws) ⟨⟨h1.nodup, h1.near, fun x => ?_⟩, hws, hwn⟩
    rw [h1.mem x, hsc]
    constructor
    ·rintro ⟨j, q1, q2⟩; exact ⟨j, by omega, q2⟩
    ·rintro ⟨j, q1, q2, q3⟩
     by_cases hj : j = k
     ·subst hj; rw [← ht, e] at q2; cases q2
     ·exact ⟨j, by omega, q2, q3⟩
   ·have e : trueC c ws = true := by simpa using e
    refine up (I := fun n2 v (a : List LitD) => zX s _ sc n (k : Int) n2 v c.kind c.vars c.consts c.n c.rows c.lits a ws) 0 sc.length rfl (Nat.zero_le _) (by omega)
     (fun i a => a.Nodup ∧ (∀ x ∈ a, (0 ≤ x.var ∧ x.var < 6) ∧ x.op = 0 ∧ -50 ≤ x.n ∧ x.n ≤ 50) ∧ ∀ x, x ∈ a ↔ x ∈ met ∨ ∃ v ∈ sc.take i, x = ⟨v, 0, ws.getD v.toNat 0⟩) ⟨h1.nodup, h1.near, fun x => by simp⟩ fun n2 i a _ hi ha2 hn2 => ?_
    obtain ⟨p1, p2, p3⟩ := ha2
    rw [zev]
    by_cases hi2 : i < sc.length
    ·have hsv := hscv _ (List.getElem_mem hi2)
     have hgl : sc[i].toNat < ws.length := by omega
     have hvi : at' .int ws sc[i].toNat = ws.getD sc[i].toNat 0 := rfl
     rw [sel_lt hi2, at_nat (t := .int) hi2, hvi]
     have hin : inb sc[i] ws.length = true := inb_iff.2 (by omega)
     have hX : Call1 Tryz.prog zFb [.sl .lit a, .agg [.int .i64 sc[i], .int .i64 0, .int .i64 (ws.getD sc[i].toNat 0)]] .bool fun c26 => sel (!c26)
       (room .lit (a.length + ([(⟨sc[i], 0, ws.getD sc[i].toNat 0⟩ : LitD)]).length) = true ∧ zX s (fun d => d = dS (keepS (fun v n => !inC c v || mayB (trueC c) s v n) s)) sc n (k : Int) n2 (w64 ((i : Int) + 1)) c.kind c.vars c.consts c.n c.rows c.lits (a ++ [(⟨sc[i], 0, ws.getD sc[i].toNat 0⟩ : LitD)]) ws)
       (zX s (fun d => d = dS (keepS (fun v n => !inC c v || mayB (trueC c) s v n) s)) sc n (k : Int) n2 (w64 ((i : Int) + 1)) c.kind c.vars c.consts c.n c.rows c.lits a ws) := by
      refine call1 (zRo a ⟨sc[i], 0, ws.getD sc[i].toNat 0⟩) ?_
      have hmem : ∀ x, (x ∈ a ∨ x = (⟨sc[i], 0, ws.getD sc[i].toNat 0⟩ : LitD)) ↔ x ∈ met ∨ ∃ v ∈ sc.take (i + 1), x = ⟨v, 0, ws.getD v.toNat 0⟩ := fun x => by
       rw [p3 x, ← List.take_append_getElem hi2]
       simp only [List.mem_append, List.mem_singleton]
       constructor
       ·rintro ((q | ⟨v, q1, q2⟩) | q)
        ·exact .inl q
        ·exact .inr ⟨v, .inl q1, q2⟩
        ·exact .inr ⟨_, .inr rfl, q⟩
       ·rintro (q | ⟨v, q1 | q1, q2⟩)
        ·exact .inl (.inl q)
        ·exact .inl (.inr ⟨v, q1, q2⟩)
        ·rw [q1] at q2; exact .inr q2
      refine za (fun f => ⟨room_of (t := .lit) ?_, hn2 hi2 _ ⟨?_, fun x hx => ?_, fun x => ?_⟩⟩) fun f => hn2 hi2 _ ⟨p1, p2, fun x => ?_⟩
      ·have := zmz p1 p2
       show (_ + 1) * 24 ≤ _; omega
      ·rw [List.nodup_append]
       refine ⟨p1, by simp, fun x hx y hy e2 => ?_⟩
       rw [List.mem_singleton] at hy
       have f : (a.any fun y => decide (y = (⟨sc[i], 0, ws.getD sc[i].toNat 0⟩ : LitD))) = false := by simpa using f
       rw [z8j.2 (by rw [← hy, ← e2]; exact hx)] at f
       cases f
      ·rcases List.mem_append.1 hx with hx | hx
       ·exact p2 x hx
       ·rw [List.mem_singleton.1 hx]; exact ⟨by show 0 ≤ sc[i] ∧ sc[i] < 6; omega, rfl, hwn _⟩
      ·rw [← hmem x, List.mem_append, List.mem_singleton]
      ·have f : (a.any fun y => decide (y = (⟨sc[i], 0, ws.getD sc[i].toNat 0⟩ : LitD))) = true := by simpa using f
       rw [← hmem x]
       exact ⟨.inl, fun q => q.elim id fun q => by rw [q]; exact z8j.1 f⟩
     repeat' (first | exact hX | exact hin | exact inb_nat hi2 | apply And.intro)
    ·have hi' : i = sc.length := by omega
     subst hi'
     rw [sel_end]
     refine hn h (a, ws) ⟨⟨p1, p2, fun x => ?_⟩, hws, hwn⟩
     rw [p3 x, h1.mem x, List.take_length, hsc]
     constructor
     ·rintro (⟨j, q1, q2⟩ | ⟨v, q1, q2⟩)
      ·exact ⟨j, by omega, q2⟩
      ·exact ⟨k, by omega, by rw [← ht]; exact e, v, q1, by rw [q2, hsame v q1]⟩
     ·rintro ⟨j, q1, q2, v, q3, q4⟩
      by_cases hj : j = k
      ·subst hj; exact .inr ⟨v, q3, by rw [q4, hsame v q3]⟩
      ·exact .inl ⟨j, by omega, q2, v, q3, q4⟩
  ·have hk' : k = prodS s sc := by omega
   subst hk'
   refine df (by rw [Nat.div_self hKp]; decide) ?_
   have hmet : ∀ v n : Int, (⟨v, 0, n⟩ : LitD) ∈ met ↔ v ∈ sc ∧ May (trueC c) s v.toNat n := fun v n => by
    rw [h1.mem, ← hpart v n, hsc]
   refine up (I := fun n4 v (a : List (List Int)) => zge s _ sc n4 v met a) 0 s.length rfl (Nat.zero_le _) (by omega) (fun i a => a = (s.take i).mapIdx fun v l => l.filter fun n => !inC c v || mayB (trueC c) s v n) rfl fun n4 i a _ hi ha4 hn4 => ?_
   subst ha4
   rw [zgv]
   by_cases hi2 : i < s.length
   ·have hrow := hs.row i
    rw [getD_at _ hi2] at hrow
    have hroom : room (.list .int) (((s.take i).mapIdx fun v l => l.filter fun n => !inC c v || mayB (trueC c) s v n).length + 1) = true := room_of (t := .list .int) (by rw [List.length_mapIdx, List.length_take]; show (_ + 1) * 24 ≤ _; omega)
    have hhs : hasI sc (i : Int) = inC c i := by rw [← hsc]; exact z6j hi2
    rw [sel_lt hi2]
    refine call1 (zan _ _) (za (fun e => ⟨inb_nat hi2, hroom, hn4 hi2 _ ?_⟩) fun e => ?_)
    ·rw [hhs] at e
     rw [zVc _ hi2, at_nat (t := .list .int) hi2]
     congr 1
     congr 1
     symm
     exact List.filter_eq_self.2 fun n _ => by rw [e]; rfl
    ·rw [hhs] at e
     have e : inC c i = true := by simpa using e
     refine up (I := fun n6 v (a : List Int) => zfe s _ sc n4 (i : Int) n6 v met _ a) 0 s[i].length rfl (Nat.zero_le _) (by omega) (fun j a => a = (s[i].take j).filter fun n => !inC c i || mayB (trueC c) s i n) rfl fun n6 j a _ hj ha6 hn6 => ?_
     subst ha6
     rw [zfv, at_nat (t := .list .int) hi2]
     refine ⟨inb_nat hi2, ?_⟩
     by_cases hj2 : j < s[i].length
     ·rw [sel_lt hj2, at_nat (t := .int) hj2]
      have hb : (met.any fun y => decide (y = (⟨(i : Int), 0, s[i][j]⟩ : LitD))) = (!inC c i || mayB (trueC c) s i s[i][j]) := by
       rw [e, Bool.not_true, Bool.false_or, Bool.eq_iff_iff, z8j, hmet, zA, Int.toNat_natCast]
       exact ⟨fun q => q.2, fun q => ⟨by rw [← hsc]; exact zM.2 ⟨by omega, e⟩, q⟩⟩
      refine ⟨inb_nat hi2, inb_nat hj2, call1 (zRo met ⟨(i : Int), 0, s[i][j]⟩) ?_⟩
      rw [hb]
      refine za (fun f => ⟨inb_nat hi2, inb_nat hj2, room_of (t := .int) ?_, hn6 hj2 _ ?_⟩) fun f => hn6 hj2 _ ?_
      ·have := List.length_filter_le (fun n => !inC c i || mayB (trueC c) s i n) (s[i].take j)
       rw [List.length_take] at this
       show (_ + 1) * 8 ≤ _
       omega
      ·rw [z8 _ hj2, if_pos f]
      ·rw [z8 _ hj2, if_neg (by rw [f]; exact Bool.false_ne_true)]
     ·have hj' : j = s[i].length := by omega
      subst hj'
      rw [sel_end, List.take_length]
      exact ⟨hroom, hn4 hi2 _ (zVc _ hi2).symm⟩
   ·have hi' : i = s.length := by omega
    subst hi'
    rw [sel_end, List.take_length]; rfl
end Go.Proofs.YtajnbkhgnppckaaGreatDoor
/- The laws of one constraint by itself. -/
namespace Go.Proofs.YtajnbkhgnppckaaGreatDoor
open Go.RowKit
set_option linter.unusedVariables false
set_option linter.unusedSimpArgs false
def partB (c : ConD) (s : List (List Int)) (v : Nat) (n : Int) : Bool :=
 (List.range (prodS s (scopeC c s.length))).any fun k => trueC c (chosenV s (scopeC c s.length) (List.replicate s.length 0) k).1 && decide ((chosenV s (scopeC c s.length) (List.replicate s.length 0) k).1.getD v 0 = n)
def filterB (c : ConD) (s : List (List Int)) : List (List Int) :=
 if failS s = true then s else if scopeC c s.length = [] then (if trueC c [] = true then s else noneS s) else keepS (fun v n => !inC c v || partB c s v n) s
theorem znz {c : ConD} {s : List (List Int)} (hc : RightC c s.length) (hf : failS s = false) {v : Nat} {n : Int} (hv : v < s.length) (hi : inC c v = true) : partB c s v n = mayB (trueC c) s v n := by
 have hz : (List.replicate s.length (0 : Int)).length = s.length := List.length_replicate ..
 have hm : (v : Int) ∈ scopeC c s.length := zM.2 ⟨by omega, hi⟩
 rw [Bool.eq_iff_iff, zA, partB, List.any_eq_true]
 have h := zYj hc hf hz (v := (v : Int)) (n := n)
 rw [zno hc hf hz, Int.toNat_natCast] at h
 constructor
 ·rintro ⟨k, hk, e⟩
  rw [Bool.and_eq_true, decide_eq_true_iff] at e
  exact (h.1 ⟨k, List.mem_range.1 hk, e.1, (v : Int), hm, by rw [Int.toNat_natCast, e.2]⟩).2
 ·intro hy
  obtain ⟨k, hk, e1, u, hu, e2⟩ := h.2 ⟨hm, hy⟩
  injection e2 with e3 e4
  refine ⟨k, List.mem_range.2 hk, ?_⟩
  rw [Bool.and_eq_true, decide_eq_true_iff]
  refine ⟨e1, ?_⟩
  rw [e4, ← e3, Int.toNat_natCast]
theorem zoz {c : ConD} {s : List (List Int)} (hc : RightC c s.length) : filterS c s = filterB c s := by
 rw [filterS, filterB]
 split
 ·rfl
 rename_i hf
 split
 ·rfl
 refine zBe fun v n hn => ?_
 have hv : v < s.length := by
  apply Classical.byContradiction
  intro h
  rw [zj (by omega)] at hn; cases hn
 cases hi : inC c v
 ·rfl
 ·rw [znz hc (by simpa using hf) hv hi]
theorem ztd {m : MdlD} {s t : List (List Int)} (h : storeE m s = 0) (hl : leS t s) : storeE m t = 0 := by
 obtain ⟨h1, h2, h3⟩ := zTh.1 h
 refine zTh.2 ⟨hl.1.trans h1, fun v n hn => h2 v n ((hl.2 v).subset hn), fun l hm => ?_⟩
 obtain ⟨i, hi, rfl⟩ := List.getElem_of_mem hm
 have := hl.2 i
 rw [getD_at _ hi, getD_at _ (show i < s.length by rw [← hl.1]; exact hi)] at this
 exact (h3 _ (List.getElem_mem _)).sublist this
theorem zpz {m : MdlD} {s : List (List Int)} (h : readyE m [s] = 0) : checkM m = 0 ∧ storeE m s = 0 := by
 have h1 := z0w h
 rw [zcn (not_not_intro h1), zdn] at h
 exact ⟨h1, h⟩
structure FiltR (m : MdlD) (con : Int) (s : List (List Int)) : Prop where
 chk : checkM m = 0
 st : storeE m s = 0
 cn : 0 ≤ con ∧ con < (m.cons.length : Int)
 right : RightC (conAt m con) m.vars.length
 len : s.length = m.vars.length
 pos : 0 < m.vars.length
 op : IsOp m.vars.length (filterS (conAt m con)) (trueC (conAt m con))
theorem zqz {m : MdlD} {con : Int} {s : List (List Int)} (h : filtE m con s = 0) : FiltR m con s := by
 obtain ⟨h1, h2⟩ := zkz h
 obtain ⟨h3, h4⟩ := zpz h1
 have hr := zY h3
 have hc := zcb (atE_of h3 h2)
 have hp : 0 < m.vars.length := by have := hr.some; omega
 exact ⟨h3, h4, h2, hc, zbn h4, hp, zCe hc hp⟩
end Go.Proofs.YtajnbkhgnppckaaGreatDoor
