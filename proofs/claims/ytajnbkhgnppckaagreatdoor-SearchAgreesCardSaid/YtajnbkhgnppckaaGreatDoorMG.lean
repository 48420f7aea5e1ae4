/- Texts of this proof, one behind the other: nothing is handed in but what is proved here; no condition. -/
import Derived.Test.YtajnbkhgnppckaaGreatDoorMF
import Derived.Test.YtajnbkhgnppckaaGreatDoorWFilter
import Derived.Test.YtajnbkhgnppckaaGreatDoorPRef2
import Derived.Test.YtajnbkhgnppckaaGreatDoorPModel4
/- What one constraint takes by sums: the program's terms, sums, and which values are part of a right one. -/
namespace Go.Proofs.YtajnbkhgnppckaaGreatDoor
open Go.RowKit
set_option linter.unusedVariables false
set_option linter.unusedSimpArgs false
structure GoodS (s : List (List Int)) (nv : Nat) : Prop where
 len : s.length = nv
 near : ∀ v : Nat, ∀ n ∈ s.getD v [], -50 ≤ n ∧ n ≤ 50
 rise : ∀ l ∈ s, l.Pairwise (· < ·)
theorem GoodS.nodup {s : List (List Int)} {nv : Nat} (h : GoodS s nv) (v : Nat) : (s.getD v []).Nodup := by
 by_cases hv : v < s.length
 ·rw [getD_at _ hv]
  exact (h.rise _ (List.getElem_mem hv)).imp fun {a b} hab => by omega
 ·rw [zl (by omega)]; exact List.nodup_nil
theorem GoodS.row {s : List (List Int)} {nv : Nat} (h : GoodS s nv) (v : Nat) : (s.getD v []).length ≤ 101 :=
 ztc (h.nodup v) (lo := -50) fun n hn => by have := h.near v n hn; omega
theorem zhb {m : MdlD} {s : List (List Int)} (hm : Right m) (h : storeE m s = 0) : GoodS s m.vars.length := by
 obtain ⟨h1, h2, h3⟩ := zEf.1 h
 refine ⟨h1, fun v n hn => ?_, h3⟩
 have := h2 v n hn
 by_cases hv : v < m.vars.length
 ·rw [getD_at _ hv] at this
  have := hm.lohi _ (List.getElem_mem hv)
  omega
 ·rw [zl (by omega)] at hn; cases hn
theorem GoodS.keep {s : List (List Int)} {nv : Nat} {f : Nat → Int → Bool} (h : GoodS s nv) : GoodS (keepS f s) nv := by
 refine ⟨zx.trans h.len, fun v n hn => ?_, fun l hl => ?_⟩
 ·rw [zk, List.mem_filter] at hn; exact h.near v n hn.1
 ·obtain ⟨i, hi, rfl⟩ := List.getElem_of_mem hl
  have hi' : i < s.length := by rw [zx] at hi; exact hi
  simp only [keepS, List.getElem_mapIdx]
  exact (h.rise _ (List.getElem_mem hi')).filter _
theorem zXt (t : TermD) (v : Int) : Sat Tryz.prog zSe [.agg [dI t.v, dI t.times], .iptr [dI v] 0] (dB (decide (t.v = v))) :=
 zWt t v fun ok => by rw [zVt]
theorem zip_fst : ∀ {a b : List Int}, a.length = b.length → (a.zip b).map Prod.fst = a
 | [], [], _ => rfl
 | x :: a, y :: b, h => by rw [List.zip_cons_cons, List.map_cons, zip_fst (by simpa using h)]
 | [], _ :: _, h => by simp at h
 | _ :: _, [], h => by simp at h
theorem zYt {c : ConD} {nv : Nat} (hc : RightC c nv) (hk : c.kind ≤ 3) : Sat Tryz.prog zLe [dC c] (.sl .term (termsC c)) :=
 zHt c fun ok => by
  obtain ⟨f1, f2⟩ := hc.formC.sums hk
  have hm := hc.many
  have hz : (c.vars.zip c.consts).length = c.vars.length := by rw [List.length_zip]; omega
  rw [zGt]
  refine up (I := fun n v a => zqd c _ n v a) 0 c.vars.length rfl (Nat.zero_le _) (by omega) (fun k a => a = termsZ ((c.vars.zip c.consts).take k)) rfl fun n k a _ hk2 ha hn => ?_
  subst ha
  rw [zFt]
  by_cases h : k < c.vars.length
  ·have hk3 : k < c.consts.length := by omega
   have hzk : k < (c.vars.zip c.consts).length := by omega
   have hst : termsZ ((c.vars.zip c.consts).take (k + 1)) = addT (termsZ ((c.vars.zip c.consts).take k)) c.vars[k] c.consts[k] := by
    rw [← List.take_append_getElem hzk, zuc, List.getElem_zip]
   have hlen : (termsZ ((c.vars.zip c.consts).take k)).length ≤ k := Nat.le_trans (zQk _) (by rw [List.length_take]; omega)
   have hcb := hc.consts _ (List.getElem_mem hk3)
   have htm := zRk ((c.vars.zip c.consts).take k) fun x hx => hc.consts x.2 (List.of_mem_zip (List.mem_of_mem_take hx)).2
   generalize termsZ ((c.vars.zip c.consts).take k) = o at hst hlen htm ⊢
   rw [sel_lt h, at_nat (t := .int) h, at_nat (t := .int) hk3]
   refine ⟨inb_nat h, call1 (zPj (p := fun t => decide (t.v = c.vars[k])) zLr fun t ht => zXt t _) ?_⟩
   rcases zyh (fun t : TermD => decide (t.v = c.vars[k])) o 0 with ⟨e, h2⟩ | ⟨j, hj, e, h2, h3⟩
   ·rw [e]
    refine dt (by decide) ⟨inb_nat hk3, room_of (t := .term) ?_, hn h _ ?_⟩
    ·show (_ + 1) * 16 ≤ _; omega
    ·rw [hst, zKk fun t ht => of_decide_eq_false (h2 t ht)]
   ·rw [e, Int.zero_add]
    refine df (show ¬((j : Int) < 0) by omega) ?_
    rw [at_nat (t := .term) hj]
    refine ⟨inb_nat hj, inb_nat hk3, inb_nat hj, hn h _ ?_⟩
    have := htm _ (List.getElem_mem hj)
    rw [List.length_take] at this
    rw [hst, zLk hj (of_decide_eq_true h2) fun i hi => of_decide_eq_false (h3 i hi), w64_eq (by omega) (by omega), Int.toNat_natCast]
  ·have hk' : k = c.vars.length := by omega
   subst hk'
   rw [sel_end, ← hz, List.take_length]; rfl
def sumsL (l row : List Int) (k : Int) : List Int := Lib.compact (sortI (l.flatMap fun a => row.map fun n => a + k * n))
theorem zfl {l row : List Int} {k x : Int} : x ∈ sumsL l row k ↔ ∃ a ∈ l, ∃ n ∈ row, x = a + k * n := by
 rw [sumsL, zmh, (List.mergeSort_perm _ _).mem_iff, List.mem_flatMap]
 constructor
 ·rintro ⟨a, ha, h⟩
  obtain ⟨n, hn, e⟩ := List.mem_map.1 h
  exact ⟨a, ha, n, hn, e.symm⟩
 ·rintro ⟨a, ha, n, hn, e⟩
  exact ⟨a, ha, List.mem_map.2 ⟨n, hn, e.symm⟩⟩
theorem zXf {α β : Type} {f : α → List β} {b : Nat} : ∀ {l : List α}, (∀ a ∈ l, (f a).length ≤ b) → (l.flatMap f).length ≤ l.length * b
 | [], _ => by simp
 | a :: l, h => by
  rw [List.flatMap_cons, List.length_append, List.length_cons, Nat.add_mul, Nat.one_mul]
  have h1 := h a (List.mem_cons_self ..)
  have h2 := zXf fun x hx => h x (List.mem_cons_of_mem _ hx)
  omega
theorem zZt {l row : List Int} {k : Int} {b : Nat} (h : row.length ≤ b) : (sumsL l row k).length ≤ l.length * b := by
 rw [sumsL]
 refine Nat.le_trans (ztk _) ?_
 rw [sortI, List.length_mergeSort]
 exact zXf fun a _ => by rw [List.length_map]; exact h
theorem zgl {α β : Type} (f : α → List β) {xs : List α} {k : Nat} (h : k < xs.length) : (xs.take (k + 1)).flatMap f = (xs.take k).flatMap f ++ f xs[k] := by
 rw [← List.take_append_getElem h, List.flatMap_append, List.flatMap_cons, List.flatMap_nil, List.append_nil]
theorem z0t {l : List Int} {s : List (List Int)} {nv : Nat} {t : TermD} (hs : GoodS s nv) (hv : 0 ≤ t.v ∧ t.v < nv) (ht : -4000 ≤ t.times ∧ t.times ≤ 4000) (hl : ∀ a ∈ l, -4000000 ≤ a ∧ a ≤ 4000000) (hll : l.length ≤ 1000000000) :
  Sat Tryz.prog zMe [.sl .int l, dS s, .agg [dI t.v, dI t.times]] (.sl .int (sumsL l (s.getD t.v.toNat []) t.times)) :=
 zLt l s t fun ok => by
  have hvl : t.v.toNat < s.length := by have := hs.len; omega
  have hrow := hs.row t.v.toNat
  have hnear := hs.near t.v.toNat
  have hat : at' (.list .int) s t.v.toNat = s.getD t.v.toNat [] := rfl
  generalize s.getD t.v.toNat [] = row at hrow hnear hat ⊢
  have hfl : ∀ k, ((l.take k).flatMap fun a => row.map fun n => a + t.times * n).length ≤ l.length * 101 := fun k => by
   refine Nat.le_trans (zXf (b := 101) fun a _ => by rw [List.length_map]; exact hrow) ?_
   rw [List.length_take]
   exact Nat.mul_le_mul_right _ (by omega)
  rw [zKt]
  refine up (I := fun n v a => zUf l s t _ n v a) 0 l.length rfl (Nat.zero_le _) (by omega) (fun k a => a = (l.take k).flatMap fun a => row.map fun n => a + t.times * n) (by simp) fun n k a _ hk ha hn => ?_
  subst ha
  rw [zJt]
  by_cases h : k < l.length
  ·rw [sel_lt h]
   refine ⟨inb_nat h, inb_iff.2 (by have := hs.len; omega), ?_⟩
   refine up (I := fun n2 v a => zTf l s t _ n (k : Int) n2 v a) 0 row.length rfl (Nat.zero_le _) (by omega) (fun j a => a = ((l.take k).flatMap fun a => row.map fun n => a + t.times * n) ++ (row.take j).map fun n => l[k] + t.times * n) (by simp) fun n2 j a _ hj ha2 hn2 => ?_
   subst ha2
   rw [zIt, hat]
   by_cases h2 : j < row.length
   ·have b1 := hl _ (List.getElem_mem h)
    have b2 := hnear _ (List.getElem_mem h2)
    have b3 : -200000 ≤ t.times * row[j] ∧ t.times * row[j] ≤ 200000 := by
     have : (t.times * row[j]).natAbs ≤ 4000 * 50 := by rw [Int.natAbs_mul]; exact Nat.mul_le_mul (by omega) (by omega)
     omega
    rw [sel_lt h2, at_nat (t := .int) h, at_nat (t := .int) h2, w64_eq (n := t.times * row[j]) (by omega) (by omega), w64_eq (by omega) (by omega)]
    refine ⟨inb_nat h2, room_of (t := .int) ?_, hn2 h2 _ ?_⟩
    ·have := hfl k
     rw [List.length_append, List.length_map, List.length_take]
     show (_ + 1) * 8 ≤ _
     omega
    ·rw [z3d _ h2, List.append_assoc]
   ·have hj' : j = row.length := by omega
    subst hj'
    rw [sel_end, List.take_length]
    exact hn h _ (zgl _ h).symm
  ·have hk' : k = l.length := by omega
   subst hk'
   rw [sel_end, List.take_length]
   exact ⟨_, zkh _, _, zlh _, rfl⟩
def allOf (s : List (List Int)) (us : List TermD) : List Int := us.foldl (fun all u => sumsL all (s.getD u.v.toNat []) u.times) [0]
theorem zYf {s : List (List Int)} {us : List TermD} {u : TermD} : allOf s (us ++ [u]) = sumsL (allOf s us) (s.getD u.v.toNat []) u.times := by rw [allOf, List.foldl_append]; rfl
theorem z1t {s : List (List Int)} (hf : failS s = false) {x : Int} (us : List TermD) : (∀ t ∈ us, 0 ≤ t.v ∧ t.v.toNat < s.length) → (us.map TermD.v).Nodup → (x ∈ allOf s us ↔ SumOf us s x) := by
 refine zY (C := fun us => ∀ x, (∀ t ∈ us, 0 ≤ t.v ∧ t.v.toNat < s.length) → (us.map TermD.v).Nodup → (x ∈ allOf s us ↔ SumOf us s x)) (fun x _ _ => ?_) (fun us u ih x h1 h2 => ?_) us x
 ·rw [zht hf]; exact List.mem_singleton
 ·rw [List.map_append, List.nodup_append] at h2
  have hu := h1 u (by simp)
  rw [zYf, zfl, zit hu.1 hu.2 (fun t ht => (h1 t (by simp [ht])).1) (fun hm => h2.2.2 _ hm _ (by simp) rfl)]
  have h3 : ∀ a, a ∈ allOf s us ↔ SumOf us s a := fun a => ih a (fun t ht => h1 t (by simp [ht])) h2.1
  exact ⟨fun ⟨a, ha, r⟩ => ⟨a, (h3 a).1 ha, r⟩, fun ⟨a, ha, r⟩ => ⟨a, (h3 a).2 ha, r⟩⟩
theorem zhl {s : List (List Int)} {nv : Nat} (hs : GoodS s nv) (us : List TermD) : (∀ t ∈ us, -4000 ≤ t.times ∧ t.times ≤ 4000) → ∀ x ∈ allOf s us, -200000 * (us.length : Int) ≤ x ∧ x ≤ 200000 * (us.length : Int) := by
 refine zY (C := fun us => (∀ t ∈ us, -4000 ≤ t.times ∧ t.times ≤ 4000) → ∀ x ∈ allOf s us, -200000 * (us.length : Int) ≤ x ∧ x ≤ 200000 * (us.length : Int)) (fun _ x hx => ?_) (fun us u ih h1 x hx => ?_) us
 ·have : x = 0 := List.mem_singleton.1 hx
  subst this; decide
 ·rw [zYf, zfl] at hx
  obtain ⟨a, ha, n, hn, rfl⟩ := hx
  have h2 := ih (fun t ht => h1 t (by simp [ht])) a ha
  have h3 := h1 u (by simp)
  have h4 := hs.near _ n hn
  have b3 : -200000 ≤ u.times * n ∧ u.times * n ≤ 200000 := by
   have : (u.times * n).natAbs ≤ 4000 * 50 := by rw [Int.natAbs_mul]; exact Nat.mul_le_mul (by omega) (by omega)
   omega
  rw [List.length_append, List.length_singleton]
  omega
theorem z2t {s : List (List Int)} {nv : Nat} (hs : GoodS s nv) (us : List TermD) : (allOf s us).length ≤ 101 ^ us.length := by
 refine zY (C := fun us => (allOf s us).length ≤ 101 ^ us.length) (Nat.le_refl _) (fun us u ih => ?_) us
 rw [zYf, List.length_append, List.length_singleton, Nat.pow_succ]
 exact Nat.le_trans (zZt (hs.row _)) (Nat.mul_le_mul_right _ ih)
def linM (s : List (List Int)) (ts : List TermD) : List (Int × List Int) := ts.mapIdx fun i t => (t.v, allOf s (ts.eraseIdx i))
theorem zil {c : ConD} {nv : Nat} (hc : RightC c nv) : ∀ t ∈ termsC c, -4000 ≤ t.times ∧ t.times ≤ 4000 := fun t ht => by
 have h := zRk (c.vars.zip c.consts) (fun x hx => hc.consts x.2 (List.of_mem_zip hx).2) t ht
 have := hc.many
 rw [List.length_zip] at h
 omega
theorem zjl {c : ConD} {nv : Nat} (hc : RightC c nv) : (termsC c).length ≤ 4 := by
 have h := zQk (c.vars.zip c.consts)
 have := hc.many
 rw [List.length_zip] at h
 exact Nat.le_trans h (by omega)
theorem zkl {ts : List TermD} {f : Nat → TermD → List Int} : (ts.mapIdx fun i t => (t.v, f i t)).map Prod.fst = ts.map TermD.v := by
 apply List.ext_getElem
 ·simp
 ·intro i h1 h2; simp
theorem z3t {c : ConD} {s : List (List Int)} (hc : RightC c s.length) (hk : c.kind ≤ 3) (hs : GoodS s s.length) :
  SatH Tryz.prog zBe [dC c, dS s] [] (.clo zOb none [.iptr [.sl .term (termsC c)] 0, .iptr [.mp .int (.list .int) (linM s (termsC c))] 0, .iptr [.int .i64 c.kind, .sl .int c.vars, .sl .int c.consts, .int .i64 c.n, .sl (.list .int) c.rows, .sl .lit c.lits] 0]) [] :=
 zvt c s fun ok _ => by
  have h4 := zjl hc
  have hv := zDh hc
  have htm := zil hc
  have hnd : ((termsC c).map TermD.v).Nodup := zBh _
  rw [zut]
  refine call1 (zYt hc hk) ?_
  generalize hts : termsC c = ts at h4 hv htm hnd ⊢
  have hlm : linM s ts = ts.mapIdx fun i t => (t.v, allOf s (ts.eraseIdx i)) := rfl
  refine up (I := fun n v a => zPf c s _ ts n v ts a) 0 ts.length rfl (Nat.zero_le _) (by omega) (fun i a => a = (ts.take i).mapIdx fun i t => (t.v, allOf s (ts.eraseIdx i))) rfl fun n i a _ hi ha hn => ?_
  subst ha
  rw [ztt]
  by_cases h : i < ts.length
  ·rw [sel_lt h, at_nat (t := .term) h]
   refine ⟨inb_nat h, ?_⟩
   refine up (I := fun n2 v a => zpd c s _ ts n (i : Int) ts _ n2 a v ts _ _) 0 ts.length rfl (Nat.zero_le _) (by omega) (fun k a => a = allOf s ((ts.take k).eraseIdx i)) rfl fun n2 k a _ hk2 ha2 hn2 => ?_
   subst ha2
   rw [zst]
   by_cases h2 : k < ts.length
   ·rw [sel_lt h2, at_nat (t := .term) h2]
    refine ⟨inb_nat h2, ?_⟩
    have est := zjt (l := ts) (i := i) h2
    by_cases e : k = i
    ·refine dnf (show (k : Int) = (i : Int) by omega) (hn2 h2 _ ?_)
     rw [est, if_pos e]
    ·refine dnt (show ¬(k : Int) = (i : Int) by omega) ?_
     have hsub : ((ts.take k).eraseIdx i).Sublist ts := (List.eraseIdx_sublist ..).trans (List.take_sublist ..)
     have hul : ((ts.take k).eraseIdx i).length ≤ 4 := Nat.le_trans hsub.length_le h4
     have hb := zhl hs ((ts.take k).eraseIdx i) fun t ht => htm t (hsub.subset ht)
     refine call1 (z0t hs (hv _ (List.getElem_mem h2)) (htm _ (List.getElem_mem h2)) (fun a ha => by have := hb a ha; omega) ?_) (hn2 h2 _ ?_)
     ·exact Nat.le_trans (z2t hs _) (Nat.le_trans (Nat.pow_le_pow_right (by decide) hul) (by decide))
     ·rw [est, if_neg e, zYf]
   ·have hk' : k = ts.length := by omega
    subst hk'
    rw [sel_end, List.take_length]
    have hml : ((ts.take i).mapIdx fun i t => (t.v, allOf s (ts.eraseIdx i))).length = i := by rw [List.length_mapIdx, List.length_take]; omega
    refine ⟨decide_eq_true (by rw [hml]; omega), hn h _ ?_⟩
    rw [z5i _ h]
    refine zJf (kt := .int) (vt := .list .int) zN _ ?_
    cases e : mget .int (.list .int) ts[i].v ((ts.take i).mapIdx fun i t => (t.v, allOf s (ts.eraseIdx i))) with
    | none => rfl
    | some k =>
     have h5 := (zwb (kt := .int) (vt := .list .int) zN _).2 ⟨k, e⟩
     rw [zkl] at h5
     have h6 : ts.map TermD.v = (ts.take i).map TermD.v ++ (ts.drop i).map TermD.v := by rw [← List.map_append, List.take_append_drop]
     rw [h6, List.nodup_append] at hnd
     exact absurd rfl (hnd.2.2 _ h5 ts[i].v (List.mem_map.2 ⟨ts[i], by rw [List.drop_eq_getElem_cons h]; exact List.mem_cons_self .., rfl⟩))
  ·have hi' : i = ts.length := by omega
   subst hi'
   rw [sel_end, List.take_length, hlm]
   exact ⟨rfl, rfl⟩
theorem z4t (t : TermD) (v : Int) : Sat Tryz.prog zNe [.agg [dI t.v, dI t.times], .iptr [dI v] 0] (dB (decide (t.v = v))) :=
 zPt t v fun ok => by rw [zOt]
theorem z5t {c : ConD} {t : TermD} {a n : Int} (ht : -4000 ≤ t.times ∧ t.times ≤ 4000) (hn : -50 ≤ n ∧ n ≤ 50) (ha : -4000000 ≤ a ∧ a ≤ 4000000) : Sat Tryz.prog zOe [dI a, .iptr [.int .i64 c.kind, .sl .int c.vars, .sl .int c.consts, .int .i64 c.n, .sl (.list .int) c.rows, .sl .lit c.lits] 0, .iptr [dI t.v, dI t.times] 0, .iptr [dI n] 0] (dB (okSum c (a + t.times * n))) :=
 zRt a c t n fun ok => by
  have b3 : -200000 ≤ t.times * n ∧ t.times * n ≤ 200000 := by
   have : (t.times * n).natAbs ≤ 4000 * 50 := by rw [Int.natAbs_mul]; exact Nat.mul_le_mul (by omega) (by omega)
   omega
  rw [zQt, w64_eq (n := t.times * n) (by omega) (by omega), w64_eq (by omega) (by omega)]
  exact call1 (zjk c _) rfl
theorem z6t {c : ConD} {s : List (List Int)} (hc : RightC c s.length) (hk : c.kind ≤ 3) (hs : GoodS s s.length) (hf : failS s = false) {v n : Int} (hv : v ∈ c.vars) (hn : n ∈ s.getD v.toNat []) :
  Sat Tryz.prog zOb [dI v, dI n, .iptr [.sl .term (termsC c)] 0, .iptr [.mp .int (.list .int) (linM s (termsC c))] 0, .iptr [.int .i64 c.kind, .sl .int c.vars, .sl .int c.consts, .int .i64 c.n, .sl (.list .int) c.rows, .sl .lit c.lits] 0] (dB (mayB (trueC c) s v.toNat n)) :=
 zNt v n (termsC c) (linM s (termsC c)) c fun ok => by
  have hvv := zDh hc
  have htm := zil hc
  have hnd : ((termsC c).map TermD.v).Nodup := zBh _
  rw [zMt]
  refine call1 (zPj (p := fun t => decide (t.v = v)) zIr fun t ht => z4t t _) ?_
  rcases zyh (fun t : TermD => decide (t.v = v)) (termsC c) 0 with ⟨e, h2⟩ | ⟨j, hj, e, h2, h3⟩
  ·obtain ⟨f1, f2⟩ := hc.formC.sums hk
   have : v ∈ (termsC c).map TermD.v := by
    rw [termsC, zPk, zip_fst f2.symm]; exact hv
   obtain ⟨t, ht, rfl⟩ := List.mem_map.1 this
   exact absurd rfl (of_decide_eq_false (h2 t ht))
  ·have h2 : (termsC c)[j].v = v := of_decide_eq_true h2
   rw [e, Int.zero_add, at_nat (t := .term) hj]
   have hg : mget .int (.list .int) v (linM s (termsC c)) = some (allOf s ((termsC c).eraseIdx j)) := by
    refine mget_of (kt := .int) (vt := .list .int) zN _ (by rw [linM, zkl]; exact hnd) ?_
    have hjl : j < (linM s (termsC c)).length := by rw [linM, List.length_mapIdx]; exact hj
    have : (linM s (termsC c))[j] = (v, allOf s ((termsC c).eraseIdx j)) := by simp only [linM, List.getElem_mapIdx]; rw [h2]
    rw [← this]; exact List.getElem_mem hjl
   have hgd : mgetD .int (.list .int) v (linM s (termsC c)) = allOf s ((termsC c).eraseIdx j) := by rw [mgetD, hg]; rfl
   rw [hgd]
   have hsub : ((termsC c).eraseIdx j).Sublist (termsC c) := List.eraseIdx_sublist ..
   have hb := zhl hs ((termsC c).eraseIdx j) fun t ht => htm t (hsub.subset ht)
   have hlen := Nat.le_trans hsub.length_le (zjl hc)
   refine ⟨inb_nat hj, call1 (zAf (p := fun a => okSum c (a + (termsC c)[j].times * n)) zJr fun a ha => z5t (htm _ (List.getElem_mem hj)) (hs.near _ n hn) (by have := hb a ha; omega)) ?_⟩
   congr 1
   rw [Bool.eq_iff_iff, zw, List.any_eq_true]
   have h5 := sum_may (c := c) (s := s) hc hk hj (n := n) (by rw [h2]; exact hn)
   rw [h2] at h5
   rw [h5]
   have hmem : ∀ a, a ∈ allOf s ((termsC c).eraseIdx j) ↔ SumOf ((termsC c).eraseIdx j) s a := fun a => z1t hf _ (fun t ht => by have := hvv t (hsub.subset ht); omega) (hnd.sublist (hsub.map _))
   exact ⟨fun ⟨a, h6, h7⟩ => ⟨a, (hmem a).1 h6, h7⟩, fun ⟨a, h6, h7⟩ => ⟨a, (hmem a).2 h6, h7⟩⟩
end Go.Proofs.YtajnbkhgnppckaaGreatDoor
/- What one constraint takes where all must differ: the program's matcher. -/
namespace Go.Proofs.YtajnbkhgnppckaaGreatDoor
open Go.RowKit
set_option linter.unusedVariables false
set_option linter.unusedSimpArgs false
def rowsV (s : List (List Int)) (vars : List Int) : List (List Int) := vars.map fun v => s.getD v.toNat []
theorem zxc {s : List (List Int)} {vars : List Int} : (rowsV s vars).length = vars.length := List.length_map ..
theorem zll {s : List (List Int)} {vars : List Int} {i : Nat} (h : i < vars.length) : (rowsV s vars).getD i [] = s.getD (vars.getD i 0).toNat [] := by
 rw [getD_at _ (by rw [zxc]; exact h), getD_at _ h]; simp [rowsV]
abbrev hpF (s : List (List Int)) (vars : List Int) (turn : Int) (m a : KV) : List (Nat × HObj) := [(1000, .cells [dS s, .sl .int vars, .own 1001, .own 1002, dI turn]), (1001, .mp .int .int m), (1002, .mp .int .int a)]
def PostF (s : List (List Int)) (vars : List Int) (turn i : Int) (m a : KV) (b : Bool) (m' a' : KV) : Prop :=
 (b = true → Found (rowsV s vars) turn i m a m' a') ∧ (b = false → m' = m ∧ Tried (rowsV s vars) turn m a ((rowsV s vars).getD i.toNat []) a')
theorem zHh {n : Int} {m : KV} : mhas .int .int n m = (mget .int .int n m).isSome := rfl
theorem zml {s : List (List Int)} {vars : List Int} {turn i : Int} {m a0 : KV} (ht : 1 ≤ turn) (hm : ByOk (rowsV s vars) m) (hi : 0 ≤ i ∧ i < vars.length)
  (near : ∀ r ∈ rowsV s vars, ∀ n ∈ r, -50 ≤ n ∧ n ≤ 50) (len : ∀ r ∈ rowsV s vars, r.length ≤ 101)
  (rec : ∀ (a : KV) (k : Int), left turn a < left turn a0 → AskOk turn a → 0 ≤ k → k < vars.length → ∃ b m' a', SatH Tryz.prog zlc [.ptr 1000 0, dI k] (hpF s vars turn m a) (.bool b) (hpF s vars turn m' a') ∧ PostF s vars turn k m a b m' a') :
  ∀ (e j : Nat), j + e = (s.getD (vars.getD i.toNat 0).toNat []).length → ∀ a, Tried (rowsV s vars) turn m a0 ((s.getD (vars.getD i.toNat 0).toNat []).take j) a →
   ∃ b m' a' n, zrd s vars i (fun d h1 => d = .bool b ∧ h1 = hpF s vars turn m' a') n (j : Int) s vars turn m a ∧ PostF s vars turn i m a0 b m' a' := by
 have hil : i.toNat < vars.length := by omega
 have hrow := zll (s := s) hil
 have hrl : i.toNat < (rowsV s vars).length := by rw [zxc]; exact hil
 have hir : 0 ≤ i ∧ i < (rowsV s vars).length := by rw [zxc]; exact hi
 have hnr : ∀ n ∈ s.getD (vars.getD i.toNat 0).toNat [], -50 ≤ n ∧ n ≤ 50 := fun n hn => by
  rw [← hrow, getD_at _ hrl] at hn
  exact near _ (List.getElem_mem hrl) n hn
 have hlr : (s.getD (vars.getD i.toNat 0).toNat []).length ≤ 101 := by
  rw [← hrow, getD_at _ hrl]
  exact len _ (List.getElem_mem hrl)
 have hat : at' (.list .int) s ((at' .int vars i.toNat).toNat) = s.getD (vars.getD i.toNat 0).toNat [] := rfl
 intro e
 induction e with
 | zero =>
  intro j hj a ha
  refine ⟨false, m, a, 1, ?_, fun h => (by cases h), fun _ => ⟨rfl, ?_⟩⟩
  ·rw [zsd, hat, show j = (s.getD (vars.getD i.toNat 0).toNat []).length by omega, sel_end]
   exact ⟨rfl, rfl⟩
  ·rw [hrow]
   rwa [show j = (s.getD (vars.getD i.toNat 0).toNat []).length by omega, List.take_length] at ha
 | succ e ih =>
  intro j hj a ha
  generalize hR : s.getD (vars.getD i.toNat 0).toNat [] = row at hrow hat hnr hlr hj ha ih
  have hjl : j < row.length := by omega
  have hnj := hnr _ (List.getElem_mem hjl)
  have hw : w64 ((j : Int) + 1) = ((j + 1 : Nat) : Int) := w64_up (by omega)
  have hst : row.take (j + 1) = row.take j ++ [row[j]] := (List.take_append_getElem hjl).symm
  have hmem : row[j] ∈ (rowsV s vars).getD i.toNat [] := by rw [hrow]; exact List.getElem_mem hjl
  by_cases hask : Ask turn a row[j]
  ·obtain ⟨b, m', a', n, h1, h2⟩ := ih (j + 1) (by omega) a (by rw [hst]; exact z9s ha hask)
   refine ⟨b, m', a', n + 1, ?_, h2⟩
   rw [zsd, hat, sel_lt hjl, at_nat (t := .int) hjl]
   refine ⟨inb_nat hjl, dt hask ?_⟩
   rw [hw]; exact h1
  ·have hal : a.length ≤ 101 := ha.ask.length
   have hml : m.length ≤ 101 := hm.length near
   have hap := ha.ask.put hnj ht
   cases hg : mget .int .int row[j] m with
   | none =>
    refine ⟨true, _, _, 1, ?_, fun _ => (z7s hm ha.ask ht hnj ⟨hi.1, hir.2, hmem⟩ hask hg).start ha.more, fun h => (by cases h)⟩
    rw [zsd, hat, sel_lt hjl, at_nat (t := .int) hjl]
    refine ⟨inb_nat hjl, df hask ⟨decide_eq_true (by omega), ?_⟩⟩
    rw [zHh, hg]
    exact ⟨decide_eq_true (by omega), rfl, rfl⟩
   | some k =>
    have hk := hm.ok _ _ hg
    rw [zxc] at hk
    have hlt : left turn (mput .int .int row[j] turn a) < left turn a0 := Nat.lt_of_lt_of_le (left_lt hnj hask) (z4s ha.more)
    obtain ⟨b, m2, a2, hs, p1, p2⟩ := rec _ k hlt hap hk.1 hk.2.1
    have hgd : mgetD .int .int row[j] m = k := by rw [mgetD, hg]; rfl
    cases b with
    | true =>
     have hfd := p1 rfl
     refine ⟨true, _, _, 1, ?_, fun _ => (z8s ⟨hi.1, hir.2, hmem⟩ hask hg hfd).start ha.more, fun h => (by cases h)⟩
     rw [zsd, hat, sel_lt hjl, at_nat (t := .int) hjl]
     refine ⟨inb_nat hjl, df hask ⟨decide_eq_true (by omega), ?_⟩⟩
     rw [zHh, hg, hgd]
     have := hfd.ok.length near
     exact ⟨true, m2, a2, hs, decide_eq_true (by omega), rfl, rfl⟩
    | false =>
     obtain ⟨rfl, htr⟩ := p2 rfl
     obtain ⟨b, m', a', n, h1, h2⟩ := ih (j + 1) (by omega) a2 (by rw [hst]; exact zat ha hg htr)
     refine ⟨b, m', a', n + 1, ?_, h2⟩
     rw [zsd, hat, sel_lt hjl, at_nat (t := .int) hjl]
     refine ⟨inb_nat hjl, df hask ⟨decide_eq_true (by omega), ?_⟩⟩
     rw [zHh, hg, hgd]
     refine ⟨false, m2, a2, hs, ?_⟩
     rw [hw]; exact h1
theorem z7t {s : List (List Int)} {vars : List Int} {turn : Int} (ht : 1 ≤ turn) (hv : ∀ v ∈ vars, 0 ≤ v ∧ v < s.length) (near : ∀ r ∈ rowsV s vars, ∀ n ∈ r, -50 ≤ n ∧ n ≤ 50) (len : ∀ r ∈ rowsV s vars, r.length ≤ 101) :
  ∀ (d : Nat) (m a : KV) (i : Int), left turn a ≤ d → ByOk (rowsV s vars) m → AskOk turn a → 0 ≤ i → i < vars.length →
   ∃ b m' a', SatH Tryz.prog zlc [.ptr 1000 0, dI i] (hpF s vars turn m a) (.bool b) (hpF s vars turn m' a') ∧ PostF s vars turn i m a b m' a' := by
 intro d
 induction d with
 | zero =>
  intro m a i hd hm ha h0 h1
  obtain ⟨b, m', a', n, h2, h3⟩ := zml ht hm ⟨h0, h1⟩ near len (a0 := a) (fun a k hl _ _ _ => absurd hl (by omega)) _ 0 (Nat.zero_add _) a (zHk ha)
  refine ⟨b, m', a', zdl s vars turn m a i fun _ _ => ?_, h3⟩
  rw [zcl]
  exact ⟨inb_iff.2 (by omega), inb_iff.2 (by have := hv (at' .int vars i.toNat) (by rw [atN (t := .int) (show i.toNat < vars.length by omega)]; exact List.getElem_mem _); omega), n, h2⟩
 | succ d ih =>
  intro m a i hd hm ha h0 h1
  obtain ⟨b, m', a', n, h2, h3⟩ := zml ht hm ⟨h0, h1⟩ near len (a0 := a) (fun a' k hl hok hk0 hk1 => ih m a' k (by omega) hm hok hk0 hk1) _ 0 (Nat.zero_add _) a (zHk ha)
  refine ⟨b, m', a', zdl s vars turn m a i fun _ _ => ?_, h3⟩
  rw [zcl]
  exact ⟨inb_iff.2 (by omega), inb_iff.2 (by have := hv (at' .int vars i.toNat) (by rw [atN (t := .int) (show i.toNat < vars.length by omega)]; exact List.getElem_mem _); omega), n, h2⟩
theorem znl {α : Type} {l : List α} (h : l.Nodup) {i j : Nat} (hi : i < l.length) (hj : j < l.length) (e : l[i] = l[j]) : i = j := by
 rcases Nat.lt_trichotomy i j with h1 | h1 | h1
 ·exact absurd e (List.pairwise_iff_getElem.1 h i j hi hj h1)
 ·exact h1
 ·exact absurd e.symm (List.pairwise_iff_getElem.1 h j i hj hi h1)
theorem zol {c : ConD} (hk : c.kind = 4) {vs : List Int} : trueC c vs = decide (valsC c vs).Nodup := by
 rw [trueC]; simp [hk]
theorem z8t {c : ConD} {s : List (List Int)} (hc : RightC c s.length) (hk : c.kind = 4) (hnd : c.vars.Nodup) (hf : failS s = false) {v n : Int} (hv : v ∈ c.vars) (hn : n ∈ s.getD v.toNat []) :
  May (trueC c) s v.toNat n ↔ ∃ σ : Nat → Int, (∀ j, j < c.vars.length → σ j ∈ (rowsV (s.set v.toNat [n]) c.vars).getD j []) ∧ ∀ j k, j < c.vars.length → k < c.vars.length → σ j = σ k → j = k := by
 have hvv := hc.vars v hv
 have hvl : v.toNat < s.length := by omega
 have hset : ∀ u : Nat, (s.set v.toNat [n]).getD u [] = if u = v.toNat then [n] else s.getD u [] := fun u => by
  rw [List.getD_eq_getElem?_getD, List.getD_eq_getElem?_getD, List.getElem?_set]
  by_cases e : u = v.toNat
  ·rw [if_pos e.symm, if_pos e, if_pos (by omega)]; rfl
  ·rw [if_neg (fun x => e x.symm), if_neg e]
 have hrow : ∀ (j : Nat) (hj : j < c.vars.length), (rowsV (s.set v.toNat [n]) c.vars).getD j [] = if c.vars[j].toNat = v.toNat then [n] else s.getD c.vars[j].toNat [] := fun j hj => by
  rw [zll hj, hset, getD_at _ hj]
 constructor
 ·rintro ⟨vs, h1, h2, h3⟩
  refine ⟨fun j => vs.getD (c.vars.getD j 0).toNat 0, fun j hj => ?_, fun j k hj hk2 e => ?_⟩
  ·rw [hrow j hj]
   show vs.getD (c.vars.getD j 0).toNat 0 ∈ _
   rw [getD_at _ hj]
   split
   ·rename_i e; rw [e, h2]; exact List.mem_singleton.2 rfl
   ·have := hc.vars _ (List.getElem_mem hj)
    exact h1.2 _ (by omega)
  ·rw [zol hk] at h3
   have h4 := of_decide_eq_true h3
   refine znl h4 (by rw [zTb]; exact hj) (by rw [zTb]; exact hk2) ?_
   rw [zhd hj, zhd hk2]
   simpa only [getD_at _ hj, getD_at _ hk2] using e
 ·rintro ⟨σ, h1, h2⟩
  obtain ⟨ps, hp⟩ := zkd hf
  have hg : ∀ u : Nat, u < s.length → ((List.range s.length).map fun u : Nat => if (u : Int) ∈ c.vars then σ (c.vars.idxOf (u : Int)) else ps.getD u 0).getD u 0 = if (u : Int) ∈ c.vars then σ (c.vars.idxOf (u : Int)) else ps.getD u 0 := fun u hu => zNf hu
  have hix : ∀ (j : Nat) (hj : j < c.vars.length), c.vars.idxOf c.vars[j] = j := fun j hj => by
   have h5 : c.vars.idxOf c.vars[j] < c.vars.length := List.idxOf_lt_length_of_mem (List.getElem_mem hj)
   exact znl hnd h5 hj (List.getElem_idxOf h5)
  have hat : ∀ (j : Nat) (hj : j < c.vars.length), ((List.range s.length).map fun u : Nat => if (u : Int) ∈ c.vars then σ (c.vars.idxOf (u : Int)) else ps.getD u 0).getD c.vars[j].toNat 0 = σ j := fun j hj => by
   have := hc.vars _ (List.getElem_mem hj)
   rw [hg _ (by omega), Int.toNat_of_nonneg this.1, if_pos (List.getElem_mem hj), hix j hj]
  refine ⟨(List.range s.length).map fun u : Nat => if (u : Int) ∈ c.vars then σ (c.vars.idxOf (u : Int)) else ps.getD u 0, ⟨by simp, fun u hu => ?_⟩, ?_, ?_⟩
  ·rw [hg u hu]
   split
   ·rename_i e
    obtain ⟨j, hj, e2⟩ := List.getElem_of_mem e
    rw [← e2, hix j hj]
    have h5 := h1 j hj
    rw [hrow j hj, e2, Int.toNat_natCast] at h5
    split at h5
    ·rename_i e3; rw [List.mem_singleton.1 h5, e3]; exact hn
    ·exact h5
   ·exact hp.2 u hu
  ·obtain ⟨j, hj, rfl⟩ := List.getElem_of_mem hv
   rw [hat j hj]
   have h5 := h1 j hj
   rw [hrow j hj, if_pos rfl] at h5
   exact List.mem_singleton.1 h5
  ·rw [zol hk]
   refine decide_eq_true (List.pairwise_iff_getElem.2 fun i j hi hj hij e => ?_)
   rw [zTb] at hi hj
   rw [zhd hi, zhd hj, hat i hi, hat j hj] at e
   have := h2 i j hi hj e
   omega
theorem z9t (s : List (List Int)) : SatH Tryz.prog zPe [dS s] [] (.own 3000) [(3000, .row 26 (.list .int) s)] :=
 zkq s fun ok _ => by
  rw [zjq]
  intro b hb
  refine za (fun e => ?_) fun e => ⟨?_, ?_⟩
  ·rw [hb e]; exact ⟨rfl, rfl⟩
  ·refine room_of (t := .list .int) ?_
   have := (ok_list (t := .list .int) (ok1 ok)).1
   show (0 + s.length) * 24 ≤ _
   have h8 : s.length * 24 ≤ 140737488355328 := this
   omega
  ·exact ⟨rfl, rfl⟩
theorem zau (c : ConD) (s : List (List Int)) : SatH Tryz.prog zDe [dC c, dS s] [] (.clo zPb none [.iptr [dS s] 0, .iptr [.int .i64 c.kind, .sl .int c.vars, .sl .int c.consts, .int .i64 c.n, .sl (.list .int) c.rows, .sl .lit c.lits] 0]) [] :=
 zzt c s fun _ _ => by
  rw [zyt]
  exact ⟨rfl, rfl⟩
theorem zbu {c : ConD} {s : List (List Int)} (hc : RightC c s.length) (hk : c.kind = 4) (hnd : c.vars.Nodup) (hs : GoodS s s.length) (hf : failS s = false) {v n : Int} (hv : v ∈ c.vars) (hn : n ∈ s.getD v.toNat []) :
  Sat Tryz.prog zPb [dI v, dI n, .iptr [dS s] 0, .iptr [.int .i64 c.kind, .sl .int c.vars, .sl .int c.consts, .int .i64 c.n, .sl (.list .int) c.rows, .sl .lit c.lits] 0] (dB (mayB (trueC c) s v.toNat n)) :=
 zUt v n s c fun ok => by
  have hvv := hc.vars v hv
  have hm4 := hc.many
  have hmay := z8t hc hk hnd hf hv hn
  have hset : ∀ u : Nat, (s.set v.toNat [n]).getD u [] = if u = v.toNat then [n] else s.getD u [] := fun u => by
   rw [List.getD_eq_getElem?_getD, List.getD_eq_getElem?_getD, List.getElem?_set]
   by_cases e : u = v.toNat
   ·rw [if_pos e.symm, if_pos e, if_pos (by omega)]; rfl
   ·rw [if_neg (fun x => e x.symm), if_neg e]
  have near : ∀ r ∈ rowsV (s.set v.toNat [n]) c.vars, ∀ x ∈ r, -50 ≤ x ∧ x ≤ 50 := fun r hr x hx => by
   obtain ⟨u, hu, rfl⟩ := List.mem_map.1 hr
   rw [hset] at hx
   split at hx
   ·rw [List.mem_singleton.1 hx]; exact hs.near _ n hn
   ·exact hs.near _ x hx
  have len : ∀ r ∈ rowsV (s.set v.toNat [n]) c.vars, r.length ≤ 101 := fun r hr => by
   obtain ⟨u, hu, rfl⟩ := List.mem_map.1 hr
   rw [hset]
   split
   ·show 1 ≤ 101; decide
   ·exact hs.row _
  have hv2 : ∀ u ∈ c.vars, 0 ≤ u ∧ u < (s.set v.toNat [n]).length := fun u hu => by rw [List.length_set]; exact hc.vars u hu
  rw [zTt]
  refine ⟨s, z9t s, inb_iff.2 hvv, ?_⟩
  show ∃ n0, zwc c _ n0 0 ([] : KV) ([] : KV) (s.set v.toNat [n]) c.vars 0
  refine up (I := fun n0 u (a : KV × KV) => zwc c _ n0 u a.1 a.2 (s.set v.toNat [n]) c.vars u) (a := (([] : KV), ([] : KV))) 0 c.vars.length rfl (Nat.zero_le _) (by omega)
   (fun k a => ByOk (rowsV (s.set v.toNat [n]) c.vars) a.1 ∧ (a.1.map Prod.snd).Perm (upI k) ∧ AskOk (k : Int) a.2) ⟨z6s, List.Perm.refl _, z5s⟩ fun n0 k a _ hk2 ha hnx => ?_
  obtain ⟨m, a⟩ := a
  obtain ⟨h1, h2, h3⟩ := ha
  show zwc c _ (n0 + 1) (k : Int) m a (s.set v.toNat [n]) c.vars (k : Int)
  rw [zSt]
  by_cases h : k < c.vars.length
  ·rw [sel_lt h]
   have hw : w64 ((k : Int) + 1) = ((k + 1 : Nat) : Int) := w64_up (by omega)
   have h3' : AskOk ((k + 1 : Nat) : Int) a := h3.later (by omega)
   obtain ⟨b, m', a', q1, q2, q3⟩ := z7t (turn := ((k + 1 : Nat) : Int)) (by omega) hv2 near len _ m a (k : Int) (Nat.le_refl _) h1 h3' (by omega) (by omega)
   rw [hw]
   refine ⟨b, m', a', q1, ?_⟩
   cases b with
   | false =>
    refine bnt rfl ?_
    obtain ⟨_, htr⟩ := q3 rfl
    rw [Int.toNat_natCast] at htr
    have hno := zdt h1 h2 (h3.none (by omega) (by omega)) htr
    rw [zYs.2]
    intro hy
    obtain ⟨σ, y1, y2⟩ := hmay.1 hy
    exact hno ⟨σ, fun j hj => y1 j (by omega), fun j k2 hj hk3 => y2 j k2 (by omega) (by omega)⟩
   | true =>
    refine bnf rfl ?_
    have hfd := q2 rfl
    have := hnx h (m', a') ⟨hfd.ok, hfd.vals.trans ((h2.cons _).trans zct), hfd.ask⟩
    rw [hw] at this
    exact this
  ·have hk' : k = c.vars.length := by omega
   subst hk'
   rw [sel_end, zw.2]
   have hall := zet h1 (by rw [zxc]; exact h2)
   rw [zxc] at hall
   exact hmay.2 hall
end Go.Proofs.YtajnbkhgnppckaaGreatDoor
/- What one constraint takes: the program's walker through all values, and what is left by a constraint. -/
namespace Go.Proofs.YtajnbkhgnppckaaGreatDoor
open Go.RowKit
set_option linter.unusedVariables false
set_option linter.unusedSimpArgs false
abbrev MV := List ((Int × Int) × Int)
structure MetOk (nv : Nat) (m : MV) : Prop where
 nodup : (m.map Prod.fst).Nodup
 near : ∀ x ∈ m.map Prod.fst, (0 ≤ x.1 ∧ x.1 < (nv : Int)) ∧ -50 ≤ x.2 ∧ x.2 ≤ 50
 one : ∀ (x : Int × Int) (k : Int), mget (.pr .int .int) .int x m = some k → k = 1
theorem zcu {nv : Nat} : MetOk nv [] := ⟨List.nodup_nil, fun n hn => (by cases hn), fun n t h => (by cases h)⟩
theorem MetOk.length {nv : Nat} {m : MV} (h : MetOk nv m) : m.length ≤ nv * 101 := by
 have h1 : ((m.map Prod.fst).map fun x => x.1 * 101 + x.2 + 50).Nodup := zKf h.nodup fun x hx y hy e => by
  have a := h.near x hx
  have b := h.near y hy
  have e1 : x.1 = y.1 := by omega
  exact Prod.ext e1 (by omega)
 have := ztc h1 (lo := 0) (n := nv * 101) fun x hx => by
  obtain ⟨y, hy, rfl⟩ := List.mem_map.1 hx
  have a := h.near y hy
  omega
 rwa [List.length_map, List.length_map] at this
theorem MetOk.put {nv : Nat} {m : MV} (h : MetOk nv m) {x : Int × Int} (hx : (0 ≤ x.1 ∧ x.1 < (nv : Int)) ∧ -50 ≤ x.2 ∧ x.2 ≤ 50) : MetOk nv (mput (.pr .int .int) .int x 1 m) := by
 refine ⟨zFk (kt := .pr .int .int) (vt := .int) lkey_pr h.nodup, fun y hy => ?_, fun y k hy => ?_⟩
 ·rcases (zxh (kt := .pr .int .int) (vt := .int) lkey_pr m).1 hy with rfl | hy
  ·exact hx
  ·exact h.near y hy
 ·by_cases e : y = x
  ·subst e
   rw [znd (kt := .pr .int .int) (vt := .int) lkey_pr] at hy
   exact (Option.some.inj hy).symm
  ·rw [zod (kt := .pr .int .int) (vt := .int) lkey_pr e] at hy; exact h.one y k hy
def metPut (vars vs : List Int) (m : MV) : MV := vars.foldl (fun m v => mput (.pr .int .int) .int (v, vs.getD v.toNat 0) 1 m) m
theorem zIh {vars vs : List Int} {m : MV} {v : Int} : metPut (vars ++ [v]) vs m = mput (.pr .int .int) .int (v, vs.getD v.toNat 0) 1 (metPut vars vs m) := by rw [metPut, List.foldl_append]; rfl
theorem zdu {vs : List Int} {m : MV} {x : Int × Int} (vars : List Int) : x ∈ (metPut vars vs m).map Prod.fst ↔ x ∈ m.map Prod.fst ∨ ∃ v ∈ vars, x = (v, vs.getD v.toNat 0) := by
 refine zY (C := fun vars => x ∈ (metPut vars vs m).map Prod.fst ↔ x ∈ m.map Prod.fst ∨ ∃ v ∈ vars, x = (v, vs.getD v.toNat 0)) (by simp [metPut]) (fun l a ih => ?_) vars
 rw [zIh, zxh (kt := .pr .int .int) (vt := .int) lkey_pr, ih]
 constructor
 ·rintro (h | h | ⟨v, hv, h⟩)
  ·exact .inr ⟨a, by simp, h⟩
  ·exact .inl h
  ·exact .inr ⟨v, by simp [hv], h⟩
 ·rintro (h | ⟨v, hv, h⟩)
  ·exact .inr (.inl h)
  ·rcases List.mem_append.1 hv with hv | hv
   ·exact .inr (.inr ⟨v, hv, h⟩)
   ·rw [List.mem_singleton.1 hv] at h; exact .inl h
theorem zpl {nv : Nat} {vs : List Int} {m : MV} (h : MetOk nv m) (hn : ∀ u : Nat, -50 ≤ vs.getD u 0 ∧ vs.getD u 0 ≤ 50) (vars : List Int) : (∀ v ∈ vars, 0 ≤ v ∧ v < (nv : Int)) → MetOk nv (metPut vars vs m) := by
 refine zY (C := fun vars => (∀ v ∈ vars, 0 ≤ v ∧ v < (nv : Int)) → MetOk nv (metPut vars vs m)) (fun _ => h) (fun l a ih hv => ?_) vars
 rw [zIh]
 exact (ih fun v h => hv v (by simp [h])).put ⟨hv a (by simp), hn _⟩
abbrev hpW (c : ConD) (s : List (List Int)) (vars vs : List Int) (m : MV) : List (Nat × HObj) := [(1000, .cells [.int .i64 c.kind, .sl .int c.vars, .sl .int c.consts, .int .i64 c.n, .sl (.list .int) c.rows, .sl .lit c.lits, dS s, .sl .int vars, .own 2000, .own 1001]), (2000, .row 3 .int vs), (1001, .mp (.pr .int .int) .int m)]
structure PostW (c : ConD) (s : List (List Int)) (vars r vs : List Int) (m : MV) (vs' : List Int) (m' : MV) : Prop where
 len : vs'.length = vs.length
 near : ∀ u : Nat, -50 ≤ vs'.getD u 0 ∧ vs'.getD u 0 ≤ 50
 same : ∀ u : Nat, (∀ v ∈ r, v.toNat ≠ u) → vs'.getD u 0 = vs.getD u 0
 ok : MetOk s.length m'
 mem : ∀ x : Int × Int, x ∈ m'.map Prod.fst ↔ x ∈ m.map Prod.fst ∨ Part c s vars r vs x
theorem zeu {c : ConD} {s : List (List Int)} {vars : List Int} (hs : GoodS s s.length) (hnv : s.length ≤ 6) (hv : ∀ v ∈ vars, 0 ≤ v ∧ v < s.length) (hnd : vars.Nodup) {i : Nat} (hi : i < vars.length) {vs0 : List Int} {m0 : MV} (hl0 : vs0.length = s.length)
  (rec : ∀ (vs : List Int) (m : MV), vs.length = s.length → (∀ u : Nat, -50 ≤ vs.getD u 0 ∧ vs.getD u 0 ≤ 50) → MetOk s.length m → ∃ vs' m', SatH Tryz.prog zu [.ptr 1000 0, dI ((i + 1 : Nat) : Int)] (hpW c s vars vs m) (.tup []) (hpW c s vars vs' m') ∧ PostW c s vars (vars.drop (i + 1)) vs m vs' m') :
  ∀ (e j : Nat), j + e = (s.getD vars[i].toNat []).length → ∀ (vs : List Int) (m : MV), vs.length = s.length → (∀ u : Nat, -50 ≤ vs.getD u 0 ∧ vs.getD u 0 ≤ 50) → (∀ u : Nat, (∀ v ∈ vars.drop i, v.toNat ≠ u) → vs.getD u 0 = vs0.getD u 0) → MetOk s.length m →
   (∀ x : Int × Int, x ∈ m.map Prod.fst ↔ x ∈ m0.map Prod.fst ∨ ∃ n ∈ (s.getD vars[i].toNat []).take j, Part c s vars (vars.drop (i + 1)) (vs0.set vars[i].toNat n) x) →
   ∃ vs' m' n, zRf s vars (i : Int) (fun d h1 => d = .tup [] ∧ h1 = hpW c s vars vs' m') n (j : Int) c.kind c.vars c.consts c.n c.rows c.lits s vars m vs ∧ PostW c s vars (vars.drop i) vs0 m0 vs' m' := by
 have hvi := hv _ (List.getElem_mem hi)
 have hdr : vars.drop i = vars[i] :: vars.drop (i + 1) := List.drop_eq_getElem_cons hi
 have hnd2 : (vars[i] :: vars.drop (i + 1)).Nodup := by rw [← hdr]; exact hnd.sublist (List.drop_sublist ..)
 rw [List.nodup_cons] at hnd2
 have hrow := hs.row vars[i].toNat
 have hnr := hs.near vars[i].toNat
 have hat : at' (.list .int) s ((at' .int vars (i : Int).toNat).toNat) = s.getD vars[i].toNat [] := by rw [at_nat (t := .int) hi]; rfl
 have hpc : ∀ x, Part c s vars (vars.drop i) vs0 x ↔ ∃ n ∈ s.getD vars[i].toNat [], Part c s vars (vars.drop (i + 1)) (vs0.set vars[i].toNat n) x := fun x => by
  rw [hdr]
  exact zmt hvi.1 (by omega) (fun u hu => (hv u (List.mem_of_mem_drop hu)).1) hnd2.1
 generalize hR : s.getD vars[i].toNat [] = row at hrow hnr hat hpc
 intro e
 induction e with
 | zero =>
  intro j hj vs m hl hnear hsame hok hmem
  refine ⟨vs, m, 1, ?_, hl.trans hl0.symm, hnear, hsame, hok, fun x => ?_⟩
  ·rw [z7k, hat, show j = row.length by omega, sel_end]
   exact ⟨rfl, rfl⟩
  ·rw [hmem x, show j = row.length by omega, List.take_length, hpc x]
 | succ e ih =>
  intro j hj vs m hl hnear hsame hok hmem
  have hjl : j < row.length := by omega
  have hvl : vars[i].toNat < vs.length := by omega
  have hw : w64 ((j : Int) + 1) = ((j + 1 : Nat) : Int) := w64_up (by omega)
  have hwi : w64 ((i : Int) + 1) = ((i + 1 : Nat) : Int) := w64_up (by
   have := ztc hnd (lo := 0) (n := s.length) fun x hx => by have := hv x hx; omega
   omega)
  have hset : ∀ u : Nat, (vs.set vars[i].toNat row[j]).getD u 0 = if u = vars[i].toNat then row[j] else vs.getD u 0 := fun u => zn hvl
  obtain ⟨vs1, m1, h1, h2⟩ := rec (vs.set vars[i].toNat row[j]) m (by rw [List.length_set]; exact hl) (fun u => by
   rw [hset u]
   split
   ·exact hnr _ (List.getElem_mem hjl)
   ·exact hnear u) hok
  obtain ⟨vs', m', n, h3, h4⟩ := ih (j + 1) (by omega) vs1 m1 (by rw [h2.len, List.length_set]; exact hl) h2.near (fun u hu => by
   rw [h2.same u fun v hv => hu v (by rw [hdr]; exact List.mem_cons_of_mem _ hv), hset u, if_neg fun e => hu vars[i] (by rw [hdr]; exact List.mem_cons_self ..) e.symm]
   exact hsame u hu) h2.ok fun x => by
    have hp : Part c s vars (vars.drop (i + 1)) (vs.set vars[i].toNat row[j]) x ↔ Part c s vars (vars.drop (i + 1)) (vs0.set vars[i].toNat row[j]) x := by
     refine zlt (by rw [List.length_set, List.length_set, hl, hl0]) fun u hu => ?_
     rw [hset u, zn (by omega)]
     split
     ·rfl
     ·rename_i e
      refine hsame u fun v hv => ?_
      rw [hdr] at hv
      rcases List.mem_cons.1 hv with rfl | hv
      ·exact fun e2 => e e2.symm
      ·exact hu v hv
    rw [h2.mem x, hmem x, hp, ← List.take_append_getElem hjl]
    simp only [List.mem_append, List.mem_singleton]
    constructor
    ·rintro ((h | ⟨n, hn, h⟩) | h)
     ·exact .inl h
     ·exact .inr ⟨n, .inl hn, h⟩
     ·exact .inr ⟨_, .inr rfl, h⟩
    ·rintro (h | ⟨n, hn | hn, h⟩)
     ·exact .inl (.inl h)
     ·exact .inl (.inr ⟨n, hn, h⟩)
     ·rw [hn] at h; exact .inr h
  refine ⟨vs', m', n + 1, ?_, h4⟩
  rw [z7k, hat, sel_lt hjl, at_nat (t := .int) hi, at_nat (t := .int) hjl, hwi, hw]
  exact ⟨inb_nat hjl, inb_nat hi, inb_iff.2 (by omega), vs1, m1, h1, h3⟩
theorem zfu {c : ConD} {s : List (List Int)} {vars : List Int} (hc : RightC c s.length) (hs : GoodS s s.length) (hv : ∀ v ∈ vars, 0 ≤ v ∧ v < s.length) (hnd : vars.Nodup) :
  ∀ (d i : Nat), i + d = vars.length → ∀ (vs : List Int) (m : MV), vs.length = s.length → (∀ u : Nat, -50 ≤ vs.getD u 0 ∧ vs.getD u 0 ≤ 50) → MetOk s.length m → ∃ vs' m', SatH Tryz.prog zu [.ptr 1000 0, dI (i : Int)] (hpW c s vars vs m) (.tup []) (hpW c s vars vs' m') ∧ PostW c s vars (vars.drop i) vs m vs' m' := by
 have hnv := hc.nv6
 have hvl : vars.length ≤ 6 := by
  have := ztc hnd (lo := 0) (n := s.length) fun x hx => by have := hv x hx; omega
  omega
 intro d
 induction d with
 | zero =>
  intro i hi vs m hl hnear hok
  have hgv : GoodV vs s.length := ⟨hl, fun n hn => by
   obtain ⟨u, hu, rfl⟩ := List.getElem_of_mem hn
   have := hnear u
   rwa [getD_at _ hu] at this⟩
  have hd : vars.drop i = [] := List.drop_eq_nil_of_le (by omega)
  have hpn : ∀ x, Part c s vars (vars.drop i) vs x ↔ trueC c vs = true ∧ ∃ v ∈ vars, x = (v, vs.getD v.toNat 0) := fun x => by rw [hd]; exact zkt
  cases ht : trueC c vs with
  | false =>
   refine ⟨vs, m, zGh c.kind c.vars c.consts c.n c.rows c.lits s vars vs m (i : Int) fun _ _ => ?_, rfl, hnear, fun _ _ => rfl, hok, fun x => ?_⟩
   ·rw [zFh]
    refine dt (by omega) (call1 (zih hc hgv) (bf ht ?_))
    exact ⟨rfl, rfl⟩
   ·rw [hpn, ht]; simp
  | true =>
   refine ⟨vs, metPut vars vs m, zGh c.kind c.vars c.consts c.n c.rows c.lits s vars vs m (i : Int) fun _ _ => ?_, rfl, hnear, fun _ _ => rfl, zpl hok hnear vars hv, fun x => ?_⟩
   ·rw [zFh]
    refine dt (by omega) (call1 (zih hc hgv) (bt ht ?_))
    refine up (I := fun n v a => zQf c.kind c.vars c.consts c.n c.rows c.lits s vars vs _ n v a) 0 vars.length rfl (Nat.zero_le _) (by omega) (fun k a => a = metPut (vars.take k) vs m) rfl fun n k a _ hk ha hn => ?_
    subst ha
    rw [zCt]
    by_cases h : k < vars.length
    ·have hvk := hv _ (List.getElem_mem h)
     have hml := (zpl hok hnear (vars.take k) fun v hv2 => hv v (List.mem_of_mem_take hv2)).length
     rw [sel_lt h, at_nat (t := .int) h]
     refine ⟨inb_nat h, inb_iff.2 (by omega), decide_eq_true (by omega), hn h _ ?_⟩
     rw [← List.take_append_getElem h, zIh]; rfl
    ·have hk' : k = vars.length := by omega
     subst hk'
     rw [sel_end, List.take_length]
     exact ⟨rfl, rfl⟩
   ·rw [hpn, ht, zdu]; simp
 | succ d ih =>
  intro i hi vs m hl hnear hok
  have hil : i < vars.length := by omega
  have hvi := hv _ (List.getElem_mem hil)
  obtain ⟨vs', m', n, h1, h2⟩ := zeu (c := c) (m0 := m) hs hnv hv hnd hil hl (fun vs m a b c => ih (i + 1) (by omega) vs m a b c) _ 0 (Nat.zero_add _) vs m hl hnear (fun _ _ => rfl) hok fun x => by simp
  refine ⟨vs', m', zGh c.kind c.vars c.consts c.n c.rows c.lits s vars vs m (i : Int) fun _ _ => ?_, h2⟩
  rw [zFh]
  refine df (by omega) ⟨inb_nat hil, ?_, n, h1⟩
  rw [at_nat (t := .int) hil]
  exact inb_iff.2 hvi
def EachOk (c : ConD) (s : List (List Int)) (m : MV) : Prop := MetOk s.length m ∧ ∀ v n : Int, (v, n) ∈ m.map Prod.fst ↔ v ∈ scopeC c s.length ∧ May (trueC c) s v.toNat n
theorem zgu {c : ConD} {s : List (List Int)} (hc : RightC c s.length) (hs : GoodS s s.length) (hf : failS s = false) :
  ∃ vs m, EachOk c s m ∧ SatH Tryz.prog zic [dC c, dS s] [] (.clo zh none [.iptr [.iptr [.int .i64 c.kind, .sl .int c.vars, .sl .int c.consts, .int .i64 c.n, .sl (.list .int) c.rows, .sl .lit c.lits, dS s, .sl .int (scopeC c s.length), .sl .int vs, .mp (.pr .int .int) .int m] 0] 0]) [] := by
 have hnv := hc.nv6
 have hz : ∀ u : Nat, (List.replicate s.length (0 : Int)).getD u 0 = 0 := fun u => by
  by_cases h : u < s.length
  ·rw [getD_at _ (by rw [List.length_replicate]; exact h), List.getElem_replicate]
  ·exact zl (by rw [List.length_replicate]; omega)
 obtain ⟨vs, m, h1, h2⟩ := zfu (c := c) (s := s) (vars := scopeC c s.length) hc hs (fun v hv => zxb v hv) zOf _ 0 (Nat.zero_add _) (List.replicate s.length 0) [] (List.length_replicate ..) (fun u => by rw [hz u]; decide) zcu
 refine ⟨vs, m, ⟨h2.ok, fun v n => ?_⟩, zrt c s fun ok _ => ?_⟩
 ·rw [h2.mem, List.drop_zero, z1k hc hf (List.length_replicate ..)]; simp
 ·rw [zqt]
  refine call1 (zoh hc) ?_
  rw [Int.toNat_natCast]
  have hr : room .int s.length = true := room_of (t := .int) (by show _ * 8 ≤ _; omega)
  have h0 : (0 : Int) ≤ (s.length : Int) := by omega
  have hE : ∃ w2 : List Int, ∃ w3 : List ((Int × Int) × Int), SatH Tryz.prog zu [.ptr 1000 0, dI 0] [(1000, .cells [.int .i64 c.kind, .sl .int c.vars, .sl .int c.consts, .int .i64 c.n, .sl (.list .int) c.rows, .sl .lit c.lits, .sl (.list .int) s, .sl .int (scopeC c s.length), .own 2000, .own 1001]), (2000, .row 3 .int (List.replicate s.length (Ty.dflt .int))), (1001, .mp (.pr .int .int) .int ([] : List ((Int × Int) × Int)))] (.tup []) [(1000, .cells [.int .i64 c.kind, .sl .int c.vars, .sl .int c.consts, .int .i64 c.n, .sl (.list .int) c.rows, .sl .lit c.lits, .sl (.list .int) s, .sl .int (scopeC c s.length), .own 2000, .own 1001]), (2000, .row 3 .int w2), (1001, .mp (.pr .int .int) .int w3)] ∧
    (D.clo zh none [.iptr [.iptr [.int .i64 c.kind, .sl .int c.vars, .sl .int c.consts, .int .i64 c.n, .sl (.list .int) c.rows, .sl .lit c.lits, .sl (.list .int) s, .sl .int (scopeC c s.length), .sl .int w2, .mp (.pr .int .int) .int w3] 0] 0] = D.clo zh none [.iptr [.iptr [.int .i64 c.kind, .sl .int c.vars, .sl .int c.consts, .int .i64 c.n, .sl (.list .int) c.rows, .sl .lit c.lits, dS s, .sl .int (scopeC c s.length), .sl .int vs, .mp (.pr .int .int) .int m] 0] 0] ∧ ([] : List (Nat × HObj)) = []) := ⟨vs, m, h1, rfl, rfl⟩
  repeat' (first | exact hE | exact hr | exact h0 | exact rfl | apply And.intro)
theorem zhu {c : ConD} {s : List (List Int)} {vs : List Int} {m : MV} (h : EachOk c s m) {v n : Int} (hv : v ∈ scopeC c s.length) {ks : List D} :
  Sat Tryz.prog zh [dI v, dI n, .iptr [.iptr [.int .i64 c.kind, .sl .int c.vars, .sl .int c.consts, .int .i64 c.n, .sl (.list .int) c.rows, .sl .lit c.lits, dS s, .sl .int (scopeC c s.length), .sl .int vs, .mp (.pr .int .int) .int m] 0] 0] (dB (mayB (trueC c) s v.toNat n)) :=
 zEt v n c s (scopeC c s.length) vs m fun ok => by
  rw [zDt]
  show dB _ = dB _
  congr 1
  have hg : mgetD (.pr .int .int) .int (v, n) m = 1 ↔ (v, n) ∈ m.map Prod.fst := by
   rw [zwb (kt := .pr .int .int) (vt := .int) lkey_pr]
   constructor
   ·intro e
    rw [mgetD] at e
    cases e2 : mget (.pr .int .int) .int (v, n) m with
    | none => rw [e2] at e; exact absurd e (by decide)
    | some k => exact ⟨k, rfl⟩
   ·rintro ⟨k, e⟩
    rw [mgetD, e, h.1.one _ _ e]; rfl
  rw [Bool.eq_iff_iff, decide_eq_true_iff, zw]
  exact hg.trans ((h.2 v n).trans ⟨fun h => h.2, fun h => ⟨hv, h⟩⟩)
end Go.Proofs.YtajnbkhgnppckaaGreatDoor
/- What is left by one constraint: the program's filter. -/
namespace Go.Proofs.YtajnbkhgnppckaaGreatDoor
open Go.RowKit
set_option linter.unusedVariables false
set_option linter.unusedSimpArgs false
theorem zql : ∀ {l l' : List Int}, l'.Nodup → l' ⊆ l → ¬l.Nodup → l'.length < l.length
 | [], l', _, _, h => absurd List.nodup_nil h
 | x :: l, l', h1, h2, h3 => by
  by_cases hx : x ∈ l
  ·have : l'.length ≤ l.length := h1.length_le_of_subset fun y hy => by
    rcases List.mem_cons.1 (h2 hy) with rfl | h
    ·exact hx
    ·exact h
   rw [List.length_cons]; omega
  ·have h4 : ¬l.Nodup := fun h => h3 (List.nodup_cons.2 ⟨hx, h⟩)
   have h5 := zql (l := l) (l' := l'.erase x) (h1.erase x) (fun y hy => by
    have hy2 := List.mem_of_mem_erase hy
    rcases List.mem_cons.1 (h2 hy2) with rfl | h
    ·exact absurd hy (by rw [h1.mem_erase_iff]; exact fun e => e.1 rfl)
    ·exact h) h4
   have h6 : l'.length ≤ (l'.erase x).length + 1 := by rw [List.length_erase]; split <;> omega
   rw [List.length_cons]; omega
theorem ziu {l : List Int} : decide ((Lib.compact (sortI l)).length < l.length) = !decide l.Nodup := by
 have hs := zwk (sort_le l)
 have hn : (Lib.compact (sortI l)).Nodup := hs.imp fun {a b} h => by omega
 have hm : ∀ x, x ∈ Lib.compact (sortI l) ↔ x ∈ l := fun x => by rw [zmh]; exact (List.mergeSort_perm _ _).mem_iff
 by_cases h : l.Nodup
 ·rw [decide_eq_true h]
  exact decide_eq_false (by have := h.length_le_of_subset fun x hx => (hm x).2 hx; omega)
 ·rw [decide_eq_false h]
  exact decide_eq_true (zql hn (fun x hx => (hm x).1 hx) h)
theorem zju (l : List Int) : Sat Tryz.prog zCe [.sl .int l] (dB (!decide l.Nodup)) :=
 zxt l fun ok => by
  rw [zwt]
  refine ⟨_, zdh l, _, zkh _, _, zlh _, ?_⟩
  rw [lt_nat, ziu]
theorem zku {v n : Int} {sc : List Int} {g : FuncId} {caps : List D} (he : Ent Tryz.prog g) {b : Bool} (hg : hasI sc v = true → Sat Tryz.prog g (dI v :: dI n :: caps) (dB b)) (hb : hasI sc v = false → b = true) :
  Sat Tryz.prog zcb [dI v, dI n, .iptr [.sl .int sc] 0, .iptr [.clo g none caps] 0] (dB b) :=
 Sat.iclo (pre := [_, _, _]) (zBt v n sc g caps fun ok => by
  rw [zAt]
  refine call1 (z9c (a := v)) ?_
  show sel (!hasI sc v) _ _
  refine za (fun e => ?_) fun e => ⟨he, ?_⟩
  ·rw [hb (by simpa using e)]
  ·exact call1 (hg (by simpa using e)) rfl)
theorem zrl {c : ConD} {nv v : Nat} (hv : v < nv) : hasI (scopeC c nv) (v : Int) = inC c v := by
 rw [Bool.eq_iff_iff, zm, zH]
 exact ⟨fun h => h.2, fun h => ⟨by omega, h⟩⟩
theorem zsl {c : ConD} {nv : Nat} (hc : RightC c nv) (hl : c.lits = []) {v : Int} (h : v ∈ scopeC c nv) : v ∈ c.vars := by
 rcases inC_of (zH.1 h).2 with h | ⟨l, h, _⟩
 ·exact h
 ·rw [hl] at h; cases h
theorem zJh {c : ConD} {nv : Nat} (hc : RightC c nv) (hk : c.kind ≤ 8) : c.lits = [] := by
 have hf := hc.form
 have h1 := hc.kind.1
 have : c.kind = 1 ∨ c.kind = 2 ∨ c.kind = 3 ∨ c.kind = 4 ∨ c.kind = 5 ∨ c.kind = 6 ∨ c.kind = 7 ∨ c.kind = 8 := by omega
 rcases this with e | e | e | e | e | e | e | e <;> simp [formB, e] at hf <;> simp_all
theorem zlu {c : ConD} {nv : Nat} (hc : RightC c nv) (h : scopeC c nv = []) : RightC c 0 ∧ c.vars = [] ∧ c.lits = [] := by
 have hv : c.vars = [] := List.eq_nil_iff_forall_not_mem.2 fun v hv => by
  have h1 := hc.vars v hv
  have : v ∈ scopeC c nv := zH.2 ⟨h1, inC_var hv⟩
  rw [h] at this; cases this
 have hl : c.lits = [] := List.eq_nil_iff_forall_not_mem.2 fun l hl => by
  have h1 := (zL.1 (hc.lits l hl)).1
  have : l.var ∈ scopeC c nv := zH.2 ⟨h1, inC_lit hl⟩
  rw [h] at this; cases this
 exact ⟨⟨Nat.zero_le _, hc.kind, hc.many, hc.form, fun v h => (by rw [hv] at h; cases h), hc.consts, hc.n, hc.rows, fun l h => (by rw [hl] at h; cases h)⟩, hv, hl⟩
theorem ztd {c : ConD} {s : List (List Int)} (hc : RightC c s.length) (hs : GoodS s s.length) : Sat Tryz.prog zob [dC c, dS s] (dS (filterS c s)) :=
 zpt c s fun ok => by
  rw [zot]
  refine call1 (zo s) (za (fun e => ?_) fun e => ?_)
  ·rw [filterS, if_pos e]
   exact call1 (zfd s) rfl
  have hf : failS s = false := e
  rw [filterS, if_neg (by rw [hf]; decide)]
  refine call1 (zoh hc) ?_
  by_cases h0 : scopeC c s.length = []
  ·obtain ⟨hc0, _⟩ := zlu hc h0
   refine dt (by rw [h0]; rfl) (call1 (zih (vs := []) hc0 ⟨rfl, fun n hn => (by cases hn)⟩) (za (fun e => ?_) fun e => ?_))
   ·rw [if_pos h0, if_pos e]; exact call1 (zfd s) rfl
   ·rw [if_pos h0, if_neg (by rw [e]; decide)]; exact call1 (zHf s) rfl
  refine df (by
   have : (scopeC c s.length).length ≠ 0 := fun e => h0 (List.length_eq_zero_iff.1 e)
   omega) ?_
  rw [if_neg h0]
  have key : ∀ {g : FuncId} {caps : List D}, Ent Tryz.prog g → (∀ (v n : Int), v ∈ scopeC c s.length → n ∈ s.getD v.toNat [] → Sat Tryz.prog g (dI v :: dI n :: caps) (dB (mayB (trueC c) s v.toNat n))) →
    Sat Tryz.prog zt [dS s, .clo zcb none [.iptr [.sl .int (scopeC c s.length)] 0, .iptr [.clo g none caps] 0]] (dS (keepS (fun v n => !inC c v || mayB (trueC c) s v n) s)) := fun {g caps} he hg => by
   refine zpc (f := fun v n => !inC c v || mayB (trueC c) s v n) zAr fun v hv n hn => ?_
   refine zku he (fun h => ?_) fun h => ?_
   ·have h1 := zm.1 h
    rw [zrl hv] at h
    have h2 := hg v n h1 (by rw [Int.toNat_natCast, getD_at _ hv]; exact hn)
    rw [Int.toNat_natCast] at h2
    rw [h]; exact h2
   ·rw [zrl hv] at h
    rw [h]; rfl
  have hEach : ∃ e21 : ConD, ∃ e22 : List (List Int), ∃ e23 : List Int, ∃ e24 : List Int, ∃ e25 : List ((Int × Int) × Int), SatH Tryz.prog zic [dC c, dS s] [] (.clo zh none [.iptr [.iptr [.int .i64 e21.kind, .sl .int e21.vars, .sl .int e21.consts, .int .i64 e21.n, .sl (.list .int) e21.rows, .sl .lit e21.lits, .sl (.list .int) e22, .sl .int e23, .sl .int e24, .mp (.pr .int .int) .int e25] 0] 0]) [] ∧
    Call1 Tryz.prog zt [dS s, .clo zcb none [.iptr [.sl .int (scopeC c s.length)] 0, .iptr [.clo zh none [.iptr [.iptr [.int .i64 e21.kind, .sl .int e21.vars, .sl .int e21.consts, .int .i64 e21.n, .sl (.list .int) e21.rows, .sl .lit e21.lits, .sl (.list .int) e22, .sl .int e23, .sl .int e24, .mp (.pr .int .int) .int e25] 0] 0]] 0]] (.list (.list .int)) fun s26 => D.sl (.list .int) s26 = dS (keepS (fun v n => !inC c v || mayB (trueC c) s v n) s) := by
   obtain ⟨vs, m, h1, h2⟩ := zgu hc hs hf
   exact ⟨c, s, scopeC c s.length, vs, m, h2, call1 (key zGr fun v n hv hn => zhu (ks := []) h1 hv) rfl⟩
  refine za (fun e => ?_) fun e => za (fun e2 => ?_) fun e2 => ?_
  ·have hk : c.kind ≤ 3 := of_decide_eq_true e
   exact ⟨termsC c, linM s (termsC c), c, z3t hc hk hs, call1 (key zHr fun v n hv hn => z6t hc hk hs hf (zsl hc (zJh hc (by omega)) hv) hn) rfl⟩
  ·have hk : c.kind = 4 := of_decide_eq_true e2
   refine call1 (zju c.vars) (za (fun e3 => ?_) fun e3 => hEach)
   have hnd : c.vars.Nodup := by simpa using e3
   exact ⟨s, c, zau c s, call1 (key zKr fun v n hv hn => zbu hc hk hnd hs hf (zsl hc (zJh hc (by omega)) hv) hn) rfl⟩
  ·exact hEach
def filtE (m : MdlD) (con : Int) (s : List (List Int)) : Int := if readyE m [s] ≠ 0 then readyE m [s] else if con < 0 ∨ (m.cons.length : Int) ≤ con then 5 else 0
theorem filtE_1 {m : MdlD} {con : Int} {s : List (List Int)} (h : readyE m [s] ≠ 0) : filtE m con s = readyE m [s] := if_pos h
theorem filtE_2 {m : MdlD} {con : Int} {s : List (List Int)} (h : readyE m [s] = 0) (h2 : con < 0 ∨ (m.cons.length : Int) ≤ con) : filtE m con s = 5 := by rw [filtE, if_neg (not_not_intro h), if_pos h2]
theorem filtE_3 {m : MdlD} {con : Int} {s : List (List Int)} (h : readyE m [s] = 0) (h2 : 0 ≤ con ∧ con < (m.cons.length : Int)) : filtE m con s = 0 := by rw [filtE, if_neg (not_not_intro h), if_neg (by omega)]
theorem zmu {m : MdlD} {con : Int} {s : List (List Int)} (h : filtE m con s = 0) : readyE m [s] = 0 ∧ 0 ≤ con ∧ con < (m.cons.length : Int) := by
 by_cases h1 : readyE m [s] = 0
 ·by_cases h2 : con < 0 ∨ (m.cons.length : Int) ≤ con
  ·rw [filtE_2 h1 h2] at h; exact absurd h (by decide)
  ·exact ⟨h1, by omega⟩
 ·rw [filtE_1 h1] at h; exact absurd h h1
theorem atE_of {m : MdlD} {con : Int} (h : checkM m = 0) (h2 : 0 ≤ con ∧ con < (m.cons.length : Int)) : atE m con = 0 := by rw [atE, if_neg (not_not_intro h), if_neg (by omega)]
end Go.Proofs.YtajnbkhgnppckaaGreatDoor
/- What is left by one constraint: the document's answer, by all choices. -/
namespace Go.Proofs.YtajnbkhgnppckaaGreatDoor
open Go.RowKit
set_option linter.unusedVariables false
set_option linter.unusedSimpArgs false
structure Met (c : ConD) (s : List (List Int)) (zs : List Int) (k : Nat) (met : List LitD) : Prop where
 nodup : met.Nodup
 near : ∀ x ∈ met, (0 ≤ x.var ∧ x.var < 6) ∧ x.op = 0 ∧ -50 ≤ x.n ∧ x.n ≤ 50
 mem : ∀ x, x ∈ met ↔ ∃ j, j < k ∧ trueC c (chosenV s (scopeC c s.length) zs j).1 = true ∧ ∃ v ∈ scopeC c s.length, x = ⟨v, 0, (chosenV s (scopeC c s.length) zs j).1.getD v.toNat 0⟩
end Go.Proofs.YtajnbkhgnppckaaGreatDoor
/- The laws of one constraint by itself. -/
namespace Go.Proofs.YtajnbkhgnppckaaGreatDoor
open Go.RowKit
set_option linter.unusedVariables false
set_option linter.unusedSimpArgs false
def partB (c : ConD) (s : List (List Int)) (v : Nat) (n : Int) : Bool :=
 (List.range (prodS s (scopeC c s.length))).any fun k => trueC c (chosenV s (scopeC c s.length) (List.replicate s.length 0) k).1 && decide ((chosenV s (scopeC c s.length) (List.replicate s.length 0) k).1.getD v 0 = n)
def filterB (c : ConD) (s : List (List Int)) : List (List Int) :=
 if failS s = true then s else if scopeC c s.length = [] then (if trueC c [] = true then s else noneS s) else keepS (fun v n => !inC c v || partB c s v n) s
theorem znu {c : ConD} {s : List (List Int)} (hc : RightC c s.length) (hf : failS s = false) {v : Nat} {n : Int} (hv : v < s.length) (hi : inC c v = true) : partB c s v n = mayB (trueC c) s v n := by
 have hz : (List.replicate s.length (0 : Int)).length = s.length := List.length_replicate ..
 have hm : (v : Int) ∈ scopeC c s.length := zH.2 ⟨by omega, hi⟩
 rw [Bool.eq_iff_iff, zw, partB, List.any_eq_true]
 have h := z1k hc hf hz (v := (v : Int)) (n := n)
 rw [znt hc hf hz, Int.toNat_natCast] at h
 constructor
 ·rintro ⟨k, hk, e⟩
  rw [Bool.and_eq_true, decide_eq_true_iff] at e
  exact (h.1 ⟨k, List.mem_range.1 hk, e.1, (v : Int), hm, by rw [Int.toNat_natCast, e.2]⟩).2
 ·intro hy
  obtain ⟨k, hk, e1, u, hu, e2⟩ := h.2 ⟨hm, hy⟩
  injection e2 with e3 e4
  refine ⟨k, List.mem_range.2 hk, ?_⟩
  rw [Bool.and_eq_true, decide_eq_true_iff]
  refine ⟨e1, ?_⟩
  rw [e4, ← e3, Int.toNat_natCast]
theorem zou {c : ConD} {s : List (List Int)} (hc : RightC c s.length) : filterS c s = filterB c s := by
 rw [filterS, filterB]
 split
 ·rfl
 rename_i hf
 split
 ·rfl
 refine zmd fun v n hn => ?_
 have hv : v < s.length := by
  apply Classical.byContradiction
  intro h
  rw [zl (by omega)] at hn; cases hn
 cases hi : inC c v
 ·rfl
 ·rw [znu hc (by simpa using hf) hv hi]
theorem zud {m : MdlD} {s t : List (List Int)} (h : storeE m s = 0) (hl : leS t s) : storeE m t = 0 := by
 obtain ⟨h1, h2, h3⟩ := zEf.1 h
 refine zEf.2 ⟨hl.1.trans h1, fun v n hn => h2 v n ((hl.2 v).subset hn), fun l hm => ?_⟩
 obtain ⟨i, hi, rfl⟩ := List.getElem_of_mem hm
 have := hl.2 i
 rw [getD_at _ hi, getD_at _ (show i < s.length by rw [← hl.1]; exact hi)] at this
 exact (h3 _ (List.getElem_mem _)).sublist this
theorem zpu {m : MdlD} {s : List (List Int)} (h : readyE m [s] = 0) : checkM m = 0 ∧ storeE m s = 0 := by
 have h1 := zes h
 rw [z0j (not_not_intro h1), z1j] at h
 exact ⟨h1, h⟩
structure FiltR (m : MdlD) (con : Int) (s : List (List Int)) : Prop where
 chk : checkM m = 0
 st : storeE m s = 0
 cn : 0 ≤ con ∧ con < (m.cons.length : Int)
 right : RightC (conAt m con) m.vars.length
 len : s.length = m.vars.length
 pos : 0 < m.vars.length
 op : IsOp m.vars.length (filterS (conAt m con)) (trueC (conAt m con))
theorem zqu {m : MdlD} {con : Int} {s : List (List Int)} (h : filtE m con s = 0) : FiltR m con s := by
 obtain ⟨h1, h2⟩ := zmu h
 obtain ⟨h3, h4⟩ := zpu h1
 have hr := zSb h3
 have hc := zW (atE_of h3 h2)
 have hp : 0 < m.vars.length := by have := hr.some; omega
 exact ⟨h3, h4, h2, hc, zZj h4, hp, zsc hc hp⟩
end Go.Proofs.YtajnbkhgnppckaaGreatDoor
