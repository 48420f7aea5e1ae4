/- Texts of this proof, one behind the other: nothing is handed in but what is proved here; no condition. -/
import Derived.Test.YtajnbkhgnppckaaGreatDoorMA
import Derived.Laws.StructEq
import Derived.ChangeKeysEq
import Derived.MapKept
import Derived.LoopN
import Derived.Orders
import Derived.Still
/- A denotation of the program's code on plain data: literals, slices, append are told rightly. -/
namespace Go.Proofs.YtajnbkhgnppckaaGreatDoor
open Go.RowKit
set_option linter.unusedVariables false
set_option linter.unusedSimpArgs false
section
variable {P : Program} {E : TE} {A : Ann} {b0 : Base} {w w' : World} {S S' : Nat → Prop} {pl pl' : Nat → Value} {N : Nat} {σ : St} {a : Act} {v : Value} {d : D} {o : Oper} {K : D → St → Prop} {next : Act → World → Prop} {Q : Exit → Act → World → Prop}
theorem flat_len' {α : Type} {s : Nat} : ∀ (css : List (List α)) (_ : ∀ cs ∈ css, cs.length = s), css.flatten.length = css.length * s
 | [], _ => by simp
 | c :: css, hl => by
  have ih := flat_len' css (fun cs hcs => hl cs (by simp [hcs]))
  simp only [List.flatten_cons, List.length_append, List.length_cons, ih, hl c (by simp), Nat.succ_mul]; omega
theorem zEi (off : Nat) : ∀ (vl : List Value) (j0 : Nat) (cells : Array Value) (p : Nat), off + j0 + vl.length ≤ cells.size →
  ((vl.zipIdx j0).foldl (fun cs (x : Value × Nat) => cs.setIfInBounds (off + x.2) x.1) cells)[p]? = (if off + j0 ≤ p ∧ p < off + j0 + vl.length then vl[p - (off + j0)]? else cells[p]?)
 | [], j0, cells, p, h => by simp; intro h1 h2; omega
 | v :: vl, j0, cells, p, h => by
  simp only [List.length_cons] at h
  rw [List.zipIdx_cons, List.foldl_cons, zEi off vl (j0 + 1) _ p (by simp; omega)]
  by_cases h1 : p = off + j0
  ·subst h1
   rw [if_neg (by omega), if_pos (by simp), Array.getElem?_setIfInBounds_self_of_lt (by omega)]
   simp
  ·rw [Array.getElem?_setIfInBounds_ne (Ne.symm h1)]
   by_cases h2 : off + (j0 + 1) ≤ p ∧ p < off + (j0 + 1) + vl.length
   ·rw [if_pos h2, if_pos (by simp; omega)]
    rw [show p - (off + j0) = (p - (off + (j0 + 1))) + 1 by omega, List.getElem?_cons_succ]
   ·rw [if_neg h2, if_neg (by simp; omega)]
theorem zFi (off : Nat) : ∀ (l : List (Value × Nat)) (cells : Array Value), (l.foldl (fun cs (x : Value × Nat) => cs.setIfInBounds (off + x.2) x.1) cells).size = cells.size
 | [], _ => rfl
 | x :: l, cells => by rw [List.foldl_cons, zFi off l]; simp
theorem zDn (vs : Array Value) (off : Nat) (cells : Array Value) (h : off + vs.size ≤ cells.size) :
  (vs.zipIdx.foldl (fun cs (x : Value × Nat) => cs.setIfInBounds (off + x.2) x.1) cells).toList = spl cells.toList off vs.toList := by
 have hl : vs.zipIdx.toList = vs.toList.zipIdx 0 := by simp
 rw [← Array.foldl_toList, hl]
 apply List.ext_getElem?
 intro p
 rw [Array.getElem?_toList, zEi off vs.toList 0 cells p (by simp; omega), spl_get (by simp; omega)]
 simp
theorem fill_ok (m : MtB P b0 N σ a w S pl) {place : Nat → Option (Nat × Nat)} : ∀ (parts : List (Nat × Operand)) (ds ds' : List D) (cells : Array Value), fillD σ place ds parts = some ds' → All2 (Rc w S pl) cells.toList ds →
  ∃ cells', Instr.fill place cells (parts.map fun x => (x.1, a.eval x.2)) = some cells' ∧ All2 (Rc w S pl) cells'.toList ds'
 | [], ds, ds', cells, h, hr => by
  injection h with h; subst h
  exact ⟨cells, rfl, hr⟩
 | (f, x) :: r, ds, ds', cells, h, hr => by
  unfold fillD at h
  cases hp : place f with
  | none => rw [hp] at h; cases h
  | some y =>
   obtain ⟨off, sz⟩ := y
   rw [hp] at h
   simp only at h
   have hnew : ∀ new, fillNew σ (σ.ev x) ds[off]? = some new → All2 (Rc w S pl) (a.eval x).cells.toList new := by
    intro new hn
    unfold fillNew at hn
    split at hn
    ·rename_i t ys e1 e2
     injection hn with hn; subst hn
     have hx := ev_rd m x
     rw [e1] at hx
     rw [(hx.flat (d := .nil) rfl).nil_inv]
     exact .cons ⟨Rp.rd (.sl _ _ _ ⟨[.slice none 0 0], rfl, none, 0, rfl, by simp, by simp, by simp, fun _ => rfl, fun hn => absurd hn (by simp)⟩), fun _ => rfl⟩ .nil
    ·rename_i t ys nl e1
     injection hn with hn; subst hn
     have hx := ev_rd m x
     rw [e1] at hx
     have h1 := (hx.flat (d := .slN t ys nl) rfl).slN_inv.1
     obtain ⟨A, c, e, _⟩ := zi h1
     rw [show (a.eval x).cells.toList = [a.eval x] by rw [e]; rfl]
     exact .cons ⟨Rp.rd (.sl _ _ _ h1), fun _ => by rw [e]; rfl⟩ .nil
    ·exact zMg m (ev_rd m x) hn
   split at h
   ·rename_i new he
    have hn := hnew new he
    cases hb : Nat.beq new.length sz && Nat.ble (off + sz) ds.length with
    | false => rw [hb] at h; cases h
    | true =>
     rw [hb, cond_true] at h
     simp only [Bool.and_eq_true] at hb
     have h1 := zb.1 hb.1
     have h2 := Nat.le_of_ble_eq_true hb.2
     have hl := hr.len
     have hl2 := hn.len
     simp only [Array.length_toList] at hl hl2
     have hs := All2.spl hr hn (off := off) (by omega)
     rw [← zDn _ _ _ (by omega)] at hs
     obtain ⟨cells', q1, q2⟩ := fill_ok m r _ ds' _ h hs
     refine ⟨cells', ?_, q2⟩
     rw [List.map_cons]
     unfold Instr.fill
     rw [hp]
     simp only
     rw [if_neg (by
      intro h
      simp only [Bool.or_eq_true, decide_eq_true_eq] at h
      omega)]
     exact q1
   ·cases h
theorem zBs_rc {vs : List Value} {ds : List D} (h : zBs vs ds = true) : All2 (Rc w S pl) vs ds := (zBs_rd (w := w) (S := S) h).imp fun _ _ h => ⟨h.rd, rp_one h⟩
theorem zEn (F : Facts P E) {T : TypeId} {pf : Nat → Option (Nat × Nat)} (h : placeFn E T = some pf) {i : TypeInfo} {z : Value} (hi : P.info? T = some i) (hz : i.zero = some z) (parts : List (Nat × Value)) : P.built T parts = Instr.fill pf z.cells parts := by
 unfold placeFn at h
 cases hm : memN T E.arr with
 | true =>
  rw [hm, cond_true] at h; injection h with h; subst h
  obtain ⟨e, ie, hu, hie, hs⟩ := F.arr T hm
  unfold Program.built
  rw [hi, hu]
  simp only [hz, hie, hs, Nat.mul_one]
 | false =>
  rw [hm, cond_false] at h
  split at h
  ·rename_i offs hf
   injection h with h; subst h
   obtain ⟨fs, hu', hm, _⟩ := F.fld T offs hf
   unfold Program.built
   rw [hi, hu']
   simp only [hz, hm]
   have : (fun i : Nat => offs.toArray[i]?) = fun i : Nat => offs[i]? := by funext i; simp
   rw [this]
  ·cases h
theorem zFn (F : Facts P E) (m : MtB P b0 N σ a w S pl) {T : TypeId} {parts : Array (Nat × Operand)} (ho : o.op = .build T parts) (h : buildD E A o T parts.toList σ K) (hn : NextOk P b0 N o a K next) : o.wp P a w next Q := by
 unfold buildD at h
 split at h
 ·rename_i zs pf hl hf
  obtain ⟨i, z, u, hi, hz, hsz, hu, hag, hzb⟩ := (F.zs T true zs hl).ex
  split at h
  ·rename_i ds hfill
   obtain ⟨cells', q1, q2⟩ := fill_ok m _ _ _ z.cells hfill (zBs_rc hzb)
   have hb : P.built T (parts.toList.map fun x => (x.1, a.eval x.2)) = some cells' := by
    rw [zEn F hf hi hz]; exact q1
   have hrun : (execOp a.eval o).run P w = .ok (.value (.agg cells')) w := by
    unfold execOp; rw [ho]
    have e : (parts.map fun x => (x.1, a.eval x.2)).toList = parts.toList.map fun x => (x.1, a.eval x.2) := by simp
    have := run_build (P := P) w T (parts.map fun x => (x.1, a.eval x.2)) cells' (by rw [e]; exact hb)
    simp only [Sem.run_bind, this, Result.andThen_ok, Sem.run_pure]
   cases hv : memN T E.vals && ownVal o.dst with
   | true =>
    rw [hv, cond_true] at h
    simp only [Bool.and_eq_true] at hv
    have hst : stabK (dstK o.dst) = false := by
     have := hv.2
     cases hd : o.dst with
     | none => rw [hd] at this; cases this
     | some j => rw [hd] at this; simpa [ownVal, dstK] using this
    refine wp_val hrun (hn _ _ _ _ _ _ h (m.mk' (w' := w) (dstK o.dst) hst _ (.agg cells') (Below.refl _ _) (fun b hb => by cases hb) fun pl' hpl => ?_) (if_pos rfl).symm)
    refine ⟨cells', rfl, by have := q2.len; simpa using this, fun j d hd => ?_⟩
    simp only [List.getElem?_map, Option.map_eq_some_iff] at hd
    obtain ⟨d0, hd0, rfl⟩ := hd
    obtain ⟨u0, hu0, hr1, hr2⟩ := q2.at hd0
    have e : cells'.getD j undef = u0 := by rw [Array.getD_eq_getD_getElem?]; rw [Array.getElem?_toList] at hu0; rw [hu0]; rfl
    rw [e]
    exact ⟨(hr1.kill _).mono (fun _ _ => rfl) (fun _ h => h) fun k hk => hpl k fun ek => zLb _ _ (ek ▸ hk), fun hc => hr2 (zKg hc)⟩
   | false =>
    rw [hv, cond_false] at h
    obtain ⟨σ', ds', S', hK, hS, m', hv⟩ := zM h m
    have hr := hv _ (q2.imp fun _ _ h => h.1)
    exact wp_val hrun (hn _ _ _ _ _ _ hK m' (Rp.rd (.agg _ _ (by simpa using hr.len) fun j d hd => rd_of hr j d hd)))
  ·exact h.elim
 ·exact h.elim
theorem zGi {t : Ty} : ∀ (n : Nat) (ds : List D) (xs : List t.den) (vs : List Value), elems t n ds = some xs → All2 (Rp w S) vs ds → vs.length = n * t.size →
  ∃ css : List (List Value), css.flatten = vs ∧ css.length = xs.length ∧ xs.length = n ∧ (∀ cs ∈ css, cs.length = t.size) ∧ ∀ (i : Nat) (x : t.den) (cs : List Value), xs[i]? = some x → css[i]? = some cs → Rep.rd w S cs x
 | 0, ds, xs, vs, h, hr, hl => by
  injection h with h; subst h
  have : vs = [] := List.eq_nil_of_length_eq_zero (by omega)
  subst this
  exact ⟨[], rfl, rfl, rfl, by simp, by simp⟩
 | n + 1, ds, xs, vs, h, hr, hl => by
  unfold elems at h
  split at h
  ·rename_i x ys h1 h2
   injection h with h; subst h
   rw [Nat.succ_mul] at hl
   obtain ⟨css, e1, e2, e3, e4, e5⟩ := zGi n _ _ (vs.drop t.size) h2 (hr.drop t.size) (by simp; omega)
   have hlen : (vs.take t.size).length = t.size := by simp; omega
   refine ⟨vs.take t.size :: css, by rw [List.flatten_cons, e1, List.take_append_drop], by simp [e2], by simp [e3], fun cs hcs => ?_, fun i z cs hz hcs => ?_⟩
   ·rcases List.mem_cons.1 hcs with rfl | hcs
    ·exact hlen
    ·exact e4 cs hcs
   ·cases i with
    | zero =>
     simp at hz hcs; subst hz hcs
     exact ofD_rd t h1 (hr.take t.size)
    | succ i => exact e5 i z cs (by simpa using hz) (by simpa using hcs)
  ·cases h
theorem zGn {vs : Array Value} {css : List (List Value)} {e : TypeId} {t : Ty} {xs : List t.den} (hw : w'.heap[w.heap.size]? = some (.cells vs e (0, 0))) (h1 : css.flatten = vs.toList) (h2 : css.length = xs.length) (h3 : ∀ cs ∈ css, cs.length = t.size)
  (h4 : ∀ (i : Nat) (x : t.den) (cs : List Value), xs[i]? = some x → css[i]? = some cs → Rep.rd w' S cs x) (hb : room t xs.length = true) :
  ObOk w' S pl (.slice (some ⟨w.heap.size, 0, none⟩) xs.length xs.length) (.row e t xs) := by
 have hb : xs.length * t.bytes ≤ 140737488355328 := of_decide_eq_true hb
 have hbp : 0 < t.bytes := t.bytes_pos
 have hle : xs.length ≤ xs.length * t.bytes := Nat.le_mul_of_pos_right _ hbp
 refine ⟨hb, css, h2, ⟨by rw [zKb _ h3, h2], .inr ⟨w.heap.size, xs.length, vs, rfl, Nat.zero_le _, hw, Nat.le_refl _, by unfold maxLen; omega, ?_, ?_⟩⟩, h3, h4⟩
 ·rw [← Array.length_toList, ← h1, zKb _ h3, h2]
 ·rw [h1, List.take_of_length_le]; rw [← h1, zKb _ h3, h2]; exact Nat.le_refl _
theorem rows_of {vs : Array Value} {n : Nat} {ds : List D} {t : Ty} {xs : List t.den} (e : TypeId) (hr : All2 (Rp w S) vs.toList ds) (h : elems t n ds = some xs) (hl : vs.size = n * t.size) (hb : room t n = true) (m : MtB P b0 N σ a w S pl) :
  xs.length = n ∧ (∀ k, stabK k = false → MtB P b0 N (σ.mk' k (.row e t xs)) a (w.alloc (.cells vs e)) S (updP pl k (.slice (some ⟨w.heap.size, 0, none⟩) n n))) ∧
   MtB P b0 N σ a (w.alloc (.cells vs e)) (fun b => S b ∨ b = w.heap.size) pl ∧ RdV (w.alloc (.cells vs e)) (fun b => S b ∨ b = w.heap.size) (.slice (some ⟨w.heap.size, 0, none⟩) n n) xs := by
 obtain ⟨css, e1, e2, e3, e4, e5⟩ := zGi n ds xs vs.toList h hr (by simpa using hl)
 have hkeep := zPg m (.cells vs e)
 have key : ∀ S', (∀ b, S b → S' b) → ∀ pl', ObOk (w.alloc (.cells vs e)) S' pl' (.slice (some ⟨w.heap.size, 0, none⟩) xs.length xs.length) (.row e t xs) := fun S' hS' pl' =>
  zGn (w := w) (heap_alloc_new w _) e1 e2 e4 (fun i x cs hx hcs => Rep.mono (e5 i x cs hx hcs) hkeep hS') (by rw [e3]; exact hb)
 rw [← e3]
 refine ⟨rfl, fun k hst => m.mk' (w' := w.alloc (.cells vs e)) k hst _ _ (zOg w _) (fun b hb' => by injection hb' with hb'; subst hb'; exact ⟨Nat.le_refl _, by show w.heap.size < _; rw [zNg]; omega⟩) fun pl' _ => key S (fun _ h => h) pl', m.newS _, ?_⟩
 have := row_rdV (key S (fun _ h => h) pl)
 exact RdV.mono this (fun _ _ => rfl) fun b hb' => by
  rcases hb' with hb' | hb'
  ·exact .inl hb'
  ·injection hb' with hb'; exact .inr hb'.symm
theorem zHi {z : Value} {t : Ty} (hz : zBs z.cells.toList (cells t t.dflt) = true) (hs : (cells t t.dflt).length = t.size) (n : Nat) :
  All2 (Rp w S) (madeCells z.cells (n * t.size)).toList (List.replicate n (cells t t.dflt)).flatten := by
 have hr : All2 (Rp w S) z.cells.toList (cells t t.dflt) := zBs_rd hz
 have hzl : z.cells.size = t.size := by have := hr.len; simp at this; omega
 have hpos : 0 < t.size := by rw [Ty.size_eq]; exact Rep.pos
 have hlen : (List.replicate n (cells t t.dflt)).flatten.length = n * t.size := by
  rw [flat_len' (s := t.size)]
  ·simp
  ·intro cs hcs; rw [(List.mem_replicate.1 hcs).2, hs]
 refine All2.of (by rw [hlen]; simp [madeCells]) fun i u d hu hd => ?_
 have hi : i < n * t.size := by rw [← hlen]; exact (List.getElem?_eq_some_iff.1 hd).1
 rw [zKc hpos _ (fun cs hcs => by rw [(List.mem_replicate.1 hcs).2, hs])] at hd
 have hq : i / t.size < n := Nat.div_lt_of_lt_mul (by rw [Nat.mul_comm]; exact hi)
 rw [List.getElem?_replicate, if_pos hq] at hd
 simp only [Option.bind_some] at hd
 have hu' : u = z.cells[i % z.cells.size]! := by
  simp only [madeCells, Array.toList_map, Array.toList_range, List.getElem?_map, List.getElem?_range hi, Option.map_some, Option.some.injEq] at hu
  exact hu.symm
 obtain ⟨u2, h1, h2⟩ := hr.at hd
 rw [hu', hzl]
 have : z.cells[i % t.size]! = u2 := by
  rw [Array.getElem?_toList] at h1
  simp [getElem!_def, h1]
 rw [this]; exact h2
theorem zHn (F : Facts P E) (m : MtB P b0 N σ a w S pl) {T : TypeId} {len : Nat} {parts : Array (Nat × Operand)} (ho : o.op = .buildSlice T len parts) (h : buildSliceD E A o T len parts.toList σ K) (hn : NextOk P b0 N o a K next) : o.wp P a w next Q := by
 unfold buildSliceD at h
 split at h
 ·rename_i e t hl
  obtain ⟨hu, i, z, hi, hz, hsz, hby, hzb⟩ := F.sl T e t hl
  cases hb : room t len && Nat.ble (len * t.size) 16777216 with
  | false => rw [hb] at h; exact h.elim
  | true =>
   rw [hb, cond_true] at h
   simp only [Bool.and_eq_true] at hb
   have hle := Nat.le_of_ble_eq_true hb.2
   split at h
   ·rename_i ds hfill
    have hz0 := zHi (w := w) (S := S) hzb (zab t _) len
    obtain ⟨cells', q1, q2⟩ := fill_ok m _ _ _ (madeCells z.cells (len * t.size)) hfill (hz0.imp fun _ _ h => ⟨h.rd, rp_one h⟩)
    have hsize : cells'.size = len * t.size := by
     have key : ∀ (place : Nat → Option (Nat × Nat)) (l : List (Nat × Value)) (c c' : Array Value), Instr.fill place c l = some c' → c'.size = c.size := by
      intro place l
      induction l with
      | nil => intro c c' h; injection h with h; rw [h]
      | cons x l ih =>
       intro c c' h
       obtain ⟨i, v⟩ := x
       unfold Instr.fill at h
       split at h
       ·cases h
       ·split at h
        ·cases h
        ·rw [ih _ _ h]
         rw [← Array.foldl_toList]
         exact zFi _ _ _
     rw [key _ _ _ _ q1]; simp [madeCells]
    have hpos : 0 < t.size := by rw [Ty.size_eq]; exact Rep.pos
    have hrun : (execOp a.eval o).run P w = .ok (.value (.slice (some ⟨w.heap.size, 0, none⟩) len len)) (w.alloc (.cells cells' e)) := by
     unfold execOp; rw [ho]
     have hs : (sizeOf e).run P w = .ok t.size w := zSg F hl
     have e2 : (parts.map fun x => (x.1, a.eval x.2)).toList = parts.toList.map fun x => (x.1, a.eval x.2) := by simp
     have hzv : (zeroValue e).run P w = .ok z w := by simp [zeroValue, typeInfo, hi, hz]
     simp only [Instr.buildSlice, Sem.run_bind, run_underlying hu, Result.andThen_ok, hs, if_neg (Nat.not_lt.2 hle), Sem.run_pure]
     by_cases h0 : len * t.size = 0
     ·rw [h0] at q1
      have hm : madeCells z.cells 0 = #[] := by simp [madeCells]
      rw [hm] at q1
      rw [if_pos h0, h0]
      have hr0 : ((Array.range 0).map fun x => (#[] : Array Value)[x % (#[] : Array Value).size]!) = #[] := by simp
      simp only [Sem.run_bind, Sem.run_pure, Result.andThen_ok]
      rw [e2, hr0, q1]
      rfl
     ·rw [if_neg h0]
      simp only [Sem.run_bind, Sem.run_pure, Result.andThen_ok, hzv]
      have q1' := q1
      unfold madeCells at q1'
      rw [e2, q1']
      rfl
    obtain ⟨σ', ds', S', hK, hS, m', hv⟩ := zM h m
    have hr := hv _ (q2.imp fun _ _ h => h.1)
    split at hK
    ·rename_i xs hel
     obtain ⟨r1, r2, r3, r4⟩ := rows_of e hr hel hsize hb.1 m'
     split at hK
     ·rename_i k hk
      refine wp_val hrun (hn _ _ _ _ _ _ hK (r2 k (zrb ‹_›)) ?_)
      cases memN k A.nn
      ·exact (if_pos rfl).symm
      ·exact ⟨(if_pos rfl).symm, fun e => by cases e⟩
     ·exact wp_val hrun (hn _ _ _ _ _ _ hK r3 (Rp.rd (.sl t xs _ r4)))
    ·exact hK.elim
   ·exact h.elim
 ·exact h.elim
theorem zIi (t : Ty) : ∀ n : Nat, ofD t (cells t t.dflt) = some t.dflt → elems t n (List.replicate n (cells t t.dflt)).flatten = some (List.replicate n t.dflt)
 | 0, _ => rfl
 | n + 1, h => by
  unfold elems
  rw [List.replicate_succ, List.flatten_cons, List.take_append_of_le_length (by rw [zab]; exact Nat.le_refl _), List.take_of_length_le (by rw [zab]; exact Nat.le_refl _),
   show t.size = (cells t t.dflt).length by rw [zab], List.drop_left, h, zIi t n h]
  rfl
theorem zIn (F : Facts P E) (m : MtB P b0 N σ a w S pl) {T : TypeId} {l c : Operand} (ho : o.op = .makeSlice T l c) (h : makeSliceD E A o T (σ.ev l) (σ.ev c) σ K) (hn : NextOk P b0 N o a K next) : o.wp P a w next Q := by
 have hx := ev_rd m l
 have hy := ev_rd m c
 unfold makeSliceD at h
 split at h
 ·rename_i e t hl
  obtain ⟨hu, i, z, hi, hz, hsz, hby, hzb⟩ := F.sl T e t hl
  split at h
  ·rename_i p q ex ey
   rw [ex] at hx; rw [ey] at hy
   obtain ⟨hx, kx⟩ := (hx.flat (d := .int .i64 p) rfl).int_inv
   obtain ⟨hy, ky⟩ := (hy.flat (d := .int .i64 q) rfl).int_inv
   obtain ⟨rfl, h0, hroom, h⟩ := h
   have hroom' : p.toNat * t.bytes ≤ 140737488355328 := of_decide_eq_true hroom
   have hb : (i.bytes : Int) * p ≤ 281474976710656 := by
    rw [hby]
    have : ((p.toNat * t.bytes : Nat) : Int) = (t.bytes : Int) * p := by
     rw [Int.natCast_mul, Int.toNat_of_nonneg h0, Int.mul_comm]
    omega
   have hrun : (execOp a.eval o).run P w = .ok (.value (.slice (some ⟨w.heap.size, 0, none⟩) p.toNat p.toNat)) (w.alloc (.cells (madeCells z.cells (p.toNat * t.size)) e)) := by
    unfold execOp; rw [ho]
    have := run_make (P := P) w T e i z hu hi hz .i64 .i64 p p h0 (Int.le_refl _) hb ky.2
    rw [hsz] at this
    simp only [hx, hy, Sem.run_bind, this, Result.andThen_ok, Sem.run_pure]
   have hr := zHi (w := w) (S := S) hzb (zab t _) p.toNat
   obtain ⟨r1, r2, r3, r4⟩ := rows_of e hr (zIi t p.toNat (zMd t)) (by simp [madeCells]) hroom m
   split at h
   ·rename_i k hk
    exact wp_val hrun (hn _ _ _ _ _ _ h (r2 k (zrb ‹_›)) (if_pos rfl).symm)
   ·exact wp_val hrun (hn _ _ _ _ _ _ h r3 (Rp.rd (.sl t _ _ r4)))
  ·exact h.elim
 ·exact h.elim
end
end Go.Proofs.YtajnbkhgnppckaaGreatDoor
/- A denotation of the program's code on plain data: structs held against each other, slices against nil, and maps are told rightly. -/
namespace Go.Proofs.YtajnbkhgnppckaaGreatDoor
open Go.RowKit
set_option linter.unusedVariables false
set_option linter.unusedSimpArgs false
section
variable {P : Program} {E : TE} {A : Ann} {b0 : Base} {w w' : World} {S S' : Nat → Prop} {pl pl' : Nat → Value} {N : Nat} {σ : St} {a : Act} {v : Value} {d : D} {o : Oper} {K : D → St → Prop} {next : Act → World → Prop} {Q : Exit → Act → World → Prop}
def cmpAt (xs ys : Array Value) (x : Bool × Nat) : Bool := match xs[x.2]?, ys[x.2]? with
 | some (.int _ p), some (.int _ q) => p == q
 | some (.string p), some (.string q) => p.toList == q.toList
 | _, _ => false
def goodAt (xs ys : Array Value) (x : Bool × Nat) : Prop := match x.1 with
 | false => ∃ p q, xs[x.2]? = some (.int .i64 p) ∧ ys[x.2]? = some (.int .i64 q)
 | true => ∃ p q, xs[x.2]? = some (.string p) ∧ ys[x.2]? = some (.string q)
theorem zsb {T : TypeId} {u : TypeDesc} (hu : P.underlying T = some u) (ha : aggU u = false) {xs : Array Value} {off : Nat} {v : Value} (h : xs[off]? = some v) : (part T xs off).run P w = .ok v w := by
 unfold part
 simp only [Sem.run_bind, zJc hu, Result.andThen_ok, ha, Bool.false_eq_true, if_false, h, Sem.run_pure]
theorem zJi (xs ys : Array Value) (dp : Nat) : ∀ (fs : List Field) (l : List (Bool × Nat)), fs.mapM (fkOf P) = some l → (∀ x ∈ l, goodAt xs ys x) → (Op.eqFields (dp + 1) xs ys fs).run P w = .ok (l.all (cmpAt xs ys)) w
 | [], l, h, _ => by
  simp at h; subst h; rfl
 | f :: fs, l, h, hg => by
  simp only [List.mapM_cons, Option.pure_def, Option.bind_eq_bind, Option.bind_eq_some_iff, Option.some.injEq] at h
  obtain ⟨x, hx, l', hl, rfl⟩ := h
  have ih := zJi xs ys dp fs l' hl fun y hy => hg y (List.mem_cons_of_mem _ hy)
  have hgx := hg x List.mem_cons_self
  unfold fkOf at hx
  split at hx
  case isFalse => cases hx
  case isTrue hn =>
   simp only [Op.eqFields]
   rw [if_pos hn]
   split at hx
   ·rename_i hu
    injection hx with hx; subst hx
    obtain ⟨p, q, h1, h2⟩ := hgx
    simp only [Sem.run_bind, zsb hu rfl h1, zsb hu rfl h2, Result.andThen_ok, run_equalIn_int w dp f.type .i64 .i64 p q hu]
    rw [List.all_cons, show cmpAt xs ys (false, f.offset) = (p == q) by simp [cmpAt, h1, h2]]
    cases (p == q)
    ·simp
    ·simp [ih]
   ·rename_i hu
    injection hx with hx; subst hx
    obtain ⟨p, q, h1, h2⟩ := hgx
    simp only [Sem.run_bind, zsb hu rfl h1, zsb hu rfl h2, Result.andThen_ok, run_equalIn_string w dp f.type p q hu]
    rw [List.all_cons, show cmpAt xs ys (true, f.offset) = (p.toList == q.toList) by simp [cmpAt, h1, h2]]
    cases (p.toList == q.toList)
    ·simp
    ·simp [ih]
   ·cases hx
theorem str_beq (p q : ByteArray) : (p.toList == q.toList) = decide (p = q) := by
 rw [Bool.eq_iff_iff]
 simp only [beq_iff_eq, decide_eq_true_eq]
 refine ⟨fun e => ?_, fun e => by rw [e]⟩
 apply ByteArray.ext
 apply Array.ext'
 rw [ByteArray.toList_eq, ByteArray.toList_eq] at e; exact e
theorem teq_run {T : TypeId} {t : Ty} (h : StOk P T t) {vs us : Array Value} {x y : t.den} (hx : Rep.rd w S vs.toList x) (hy : Rep.rd w S' us.toList y) : (Op.equalIn 10000 T (.agg vs) (.agg us)).run P w = .ok (teq t x y) w := by
 obtain ⟨hu, hs, hg, l, hl, hm⟩ := h
 rw [run_equalIn_struct w 9999 T vs us hu hs]
 have fin : (∀ z ∈ l, goodAt vs us z) → l.all (cmpAt vs us) = teq t x y → (Op.eqFields 9999 vs us (P.fieldsOf T).toList).run P w = .ok (teq t x y) w := fun h1 h2 => by
  rw [zJi vs us 9998 _ l hm h1, h2]
 cases t <;> simp only [fkT, Option.some.injEq, reduceCtorEq] at hl <;> subst hl
 ·obtain ⟨h1, _⟩ := hx; obtain ⟨h2, _⟩ := hy
  have e1 : vs = #[.int .i64 x.kind, .int .i64 x.at_, .string x.text] := by apply Array.ext'; exact h1
  have e2 : us = #[.int .i64 y.kind, .int .i64 y.at_, .string y.text] := by apply Array.ext'; exact h2
  subst e1 e2
  refine fin (by simp [goodAt]) ?_
  obtain ⟨x1, x2, x3⟩ := x; obtain ⟨y1, y2, y3⟩ := y
  simp [cmpAt, teq, str_beq]
  rw [Bool.eq_iff_iff]; simp [str_beq, and_assoc]
 ·obtain ⟨h1, _⟩ := hx; obtain ⟨h2, _⟩ := hy
  have e1 : vs = #[.int .i64 x.var, .int .i64 x.op, .int .i64 x.n] := by apply Array.ext'; exact h1
  have e2 : us = #[.int .i64 y.var, .int .i64 y.op, .int .i64 y.n] := by apply Array.ext'; exact h2
  subst e1 e2
  refine fin (by simp [goodAt]) ?_
  obtain ⟨x1, x2, x3⟩ := x; obtain ⟨y1, y2, y3⟩ := y
  rw [Bool.eq_iff_iff]; simp [cmpAt, teq]
 ·obtain ⟨h1, _⟩ := hx; obtain ⟨h2, _⟩ := hy
  have e1 : vs = #[.string x.name, .int .i64 x.lo, .int .i64 x.hi] := by apply Array.ext'; exact h1
  have e2 : us = #[.string y.name, .int .i64 y.lo, .int .i64 y.hi] := by apply Array.ext'; exact h2
  subst e1 e2
  refine fin (by simp [goodAt]) ?_
  obtain ⟨x1, x2, x3⟩ := x; obtain ⟨y1, y2, y3⟩ := y
  simp [cmpAt, teq]
  rw [Bool.eq_iff_iff]; simp [str_beq, and_assoc]
theorem eqK_wp (m : MtB P b0 N σ a w S pl) {op : BinOp} {b : Bool} (h : eqK op b fun d => K d σ) (he : op = .eql → (execOp a.eval o).run P w = .ok (.value (.bool b)) w) (hne : op = .neq → (execOp a.eval o).run P w = .ok (.value (.bool (!b))) w)
  (hn : NextOk P b0 N o a K next) : o.wp P a w next Q := by
 unfold eqK at h
 split at h
 ·exact wp_val (he rfl) (hn _ _ _ _ _ _ h m (Rp.rd (.bool _)))
 ·exact wp_val (hne rfl) (hn _ _ _ _ _ _ h m (Rp.rd (.bool _)))
 ·exact h.elim
theorem nilIn (dp : Nat) {T e : TypeId} (hu : P.underlying T = some (.slice e)) (A : Option Addr) (n c : Nat) : (Op.equalIn (dp + 1) T (.slice A n c) (.slice none 0 0)).run P w = .ok A.isNone w := by
 cases A <;> simp only [Op.equalIn, Sem.run_bind, run_underlying hu, Result.andThen_ok, Sem.run_pure] <;> rfl
theorem nilRun {T e : TypeId} (hu : P.underlying T = some (.slice e)) (op : BinOp) {x y : Operand} {T' : TypeId} (ho : o.op = .binOp op T x y T') {A : Option Addr} {n c : Nat} (hx : a.eval x = .slice A n c) (hy : a.eval y = .slice none 0 0) :
  (op = .eql → (execOp a.eval o).run P w = .ok (.value (.bool A.isNone)) w) ∧ (op = .neq → (execOp a.eval o).run P w = .ok (.value (.bool (!A.isNone))) w) := by
 have heq : (Op.equal T (.slice A n c) (.slice none 0 0)).run P w = .ok A.isNone w := nilIn 9999 hu A n c
 have hg : ∀ op, (eqGuard op T x y (.slice A n c) (.slice none 0 0)).run P w = .ok () w := fun op => zCi op T x y _ _ (fun cs e => by cases e) (fun e => by cases e)
 refine ⟨?_, ?_⟩
 ·rintro rfl
  unfold execOp; rw [ho]
  simp only [Sem.run_bind, hx, hy, hg, Result.andThen_ok, binOp, heq, Sem.run_pure]
 ·rintro rfl
  unfold execOp; rw [ho]
  simp only [Sem.run_bind, hx, hy, hg, Result.andThen_ok, binOp, heq, Sem.run_pure]
theorem zOd {T : TypeId} (F : Facts P E) (h : isSlT E T = true) : ∃ e, P.underlying T = some (.slice e) := by
 unfold isSlT at h
 split at h
 ·rename_i x hx; obtain ⟨e, t⟩ := x; exact ⟨e, (F.sl T e t hx).und⟩
 ·cases h
theorem bin2_wp (F : Facts P E) (m : MtB P b0 N σ a w S pl) {op : BinOp} {T T' : TypeId} {x y : Operand} (ho : o.op = .binOp op T x y T') (h : bin2D E op T (σ.ev x) (σ.ev y) σ fun d => K d σ) (hn : NextOk P b0 N o a K next) : o.wp P a w next Q := by
 have hx := ev_rd m x
 have hy := ev_rd m y
 unfold bin2D at h
 split at h
 ·rename_i xs ys ex ey
  split at h
  ·rename_i t hl
   split at h
   ·rename_i p q e1 e2
    have hst := F.sts T t hl
    rw [ex] at hx; rw [ey] at hy
    obtain ⟨vs, hv, hvl, hvr⟩ := (hx.flat (d := .agg xs) rfl).agg_inv
    obtain ⟨us, hu, hul, hur⟩ := (hy.flat (d := .agg ys) rfl).agg_inv
    have r1 := ofD_rd t e1 (all2_of hvl hvr)
    have r2 := ofD_rd t e2 (all2_of hul hur)
    have hrun := teq_run (w := w) hst r1 r2
    have hg : (eqGuard op T x y (.agg vs) (.agg us)).run P w = .ok () w := run_eqGuard_agg w op T x y vs us hst.2.2.1
    refine eqK_wp m h (fun e => ?_) (fun e => ?_) hn
    ·subst e
     unfold execOp; rw [ho]
     simp only [Sem.run_bind, hv, hu, hg, Result.andThen_ok, run_eql_struct, hrun, Sem.run_pure]
    ·subst e
     unfold execOp; rw [ho]
     simp only [Sem.run_bind, hv, hu, hg, Result.andThen_ok, run_neq_struct, hrun, Sem.run_pure]
   ·exact h.elim
  ·exact h.elim
 ·rename_i t xs nl ex ey
  cases hs : E.nilq && isSlT E T with
  | false => rw [hs] at h; exact h.elim
  | true =>
   rw [hs, cond_true] at h
   obtain ⟨e, hu⟩ := zOd F (Bool.and_eq_true_iff.1 hs).2
   rw [ex] at hx; rw [ey] at hy
   obtain ⟨hv0, hnn, hyy⟩ := (hx.flat (d := .slN t xs nl) rfl).slN_inv
   obtain ⟨A', c, hv, hok⟩ := zi hv0
   have hv2 := (hy.flat (d := .nil) rfl).nil_inv
   have hr := nilRun (P := P) (w := w) hu op ho hv hv2
   have hA : A'.isNone = nl := by
    cases nl with
    | true =>
     have := hyy rfl
     rw [hv] at this
     injection this with h1; rw [h1]; rfl
    | false =>
     cases A' with
     | some _ => rfl
     | none =>
      have h1 := hok.none_ rfl
      have h2 := hok.cap
      have h3 : xs.length = 0 := by omega
      exact absurd (by rw [hv, h3, h1]) (hnn rfl)
   rw [hA] at hr
   exact eqK_wp m h hr.1 hr.2 hn
 ·rename_i t xs ex ey
  cases hs : E.nilq && isSlT E T with
  | false => rw [hs] at h; exact h.elim
  | true =>
   rw [hs, cond_true] at h
   obtain ⟨e, hu⟩ := zOd F (Bool.and_eq_true_iff.1 hs).2
   rw [ex] at hx; rw [ey] at hy
   obtain ⟨A', c, hv, hok⟩ := zi (hx.flat (d := .sl t xs) rfl).sl_inv
   have hv2 := (hy.flat (d := .nil) rfl).nil_inv
   have hr := nilRun (P := P) (w := w) hu op ho hv hv2
   have hsl := (hx.flat (d := .sl t xs) rfl).sl_inv
   exact eqK_wp m (h A'.isNone fun hn0 => by
    cases A' with
    | some _ => cases hn0
    | none =>
     have := hok.none_ rfl
     have h2 := hok.cap
     exact List.eq_nil_of_length_eq_zero (by omega)) hr.1 hr.2 hn
 ·rename_i ex ey
  cases hs : E.nilq && isSlT E T with
  | false => rw [hs] at h; exact h.elim
  | true =>
   rw [hs, cond_true] at h
   obtain ⟨e, hu⟩ := zOd F (Bool.and_eq_true_iff.1 hs).2
   rw [ex] at hx; rw [ey] at hy
   have hv1 := (hx.flat (d := .nil) rfl).nil_inv
   have hv2 := (hy.flat (d := .nil) rfl).nil_inv
   have hr := nilRun (P := P) (w := w) hu op ho hv1 hv2
   exact eqK_wp m h hr.1 hr.2 hn
 ·rename_i k ex ey
  split at h
  ·rename_i e0 t xs hob
   cases hs : E.nilq && isSlT E T with
   | false => rw [hs] at h; exact h.elim
   | true =>
    rw [hs, cond_true] at h
    obtain ⟨e, hu⟩ := zOd F (Bool.and_eq_true_iff.1 hs).2
    rw [ex] at hx; rw [ey] at hy
    have hx : a.eval x = pl k := hx
    have hv2 := (hy.flat (d := .nil) rfl).nil_inv
    obtain ⟨A', c, hv, hok⟩ := zi (row_rdV (m.hp k _ hob))
    rw [hv] at hx
    have hr := nilRun (P := P) (w := w) hu op ho hx hv2
    exact eqK_wp m (h A'.isNone fun hn0 => by
     cases A' with
     | some _ => cases hn0
     | none =>
      have := hok.none_ rfl
      have h2 := hok.cap
      exact List.eq_nil_of_length_eq_zero (by omega)) hr.1 hr.2 hn
  ·exact h.elim
 ·exact bin_wp F m ho h hn
end
end Go.Proofs.YtajnbkhgnppckaaGreatDoor
/- A denotation of the program's code on plain data: maps are told rightly. -/
namespace Go.Proofs.YtajnbkhgnppckaaGreatDoor
open Go.RowKit
set_option linter.unusedVariables false
set_option linter.unusedSimpArgs false
section
variable {P : Program} {E : TE} {A : Ann} {b0 : Base} {w w' : World} {S S' : Nat → Prop} {pl pl' : Nat → Value} {N : Nat} {σ : St} {a : Act} {v : Value} {d : D} {o : Oper} {K : D → St → Prop} {next : Act → World → Prop} {Q : Exit → Act → World → Prop}
def keyV : (t : Ty) → t.den → Value
 | .int, n => .int .i64 n
 | .str, s => .string s
 | .pr .int .int, x => .agg #[.int .i64 x.1, .int .i64 x.2]
 | _, _ => undef
theorem keyD_rd {k : Ty} {x : k.den} (h : keyD k d = some x) (hr : Rd w S pl v d) : v = keyV k x ∧ RdV w S v x := by
 unfold keyD at h
 split at h
 ·injection h with h; subst h
  obtain ⟨rfl, hi⟩ := (hr.flat (d := .int .i64 _) rfl).int_inv
  exact ⟨rfl, [_], rfl, rfl, hi⟩
 ·injection h with h; subst h
  obtain ⟨rfl, hi⟩ := (hr.flat (d := .str _) rfl).str_inv
  exact ⟨rfl, [_], rfl, rfl, hi⟩
 ·rename_i p q
  injection h with h; subst h
  obtain ⟨vs, rfl, hl, hv⟩ := (hr.flat (d := .agg [.int .i64 p, .int .i64 q]) rfl).agg_inv
  obtain ⟨e1, i1⟩ := (hv 0 _ rfl).int_inv
  obtain ⟨e2, i2⟩ := (hv 1 _ rfl).int_inv
  have hl : vs.size = 2 := hl
  have e : vs = #[.int .i64 p, .int .i64 q] := by
   apply Array.ext
   ·simpa using hl
   ·intro i h1 h2
    have : i = 0 ∨ i = 1 := by omega
    rcases this with rfl | rfl
    ·simpa [Array.getD_eq_getD_getElem?, h1] using e1
    ·simpa [Array.getD_eq_getD_getElem?, h1] using e2
  subst e
  exact ⟨rfl, [_, _], rfl, [_], [_], rfl, ⟨rfl, i1⟩, ⟨rfl, i2⟩⟩
 ·cases h
theorem keyV_of {kT : TypeId} {k : Ty} (hk : KeyK P kT k) {x : k.den} (h : RdV w S v x) : v = keyV k x := by
 obtain ⟨cs, rfl, hr⟩ := h
 unfold KeyK at hk
 split at hk
 ·obtain ⟨rfl, _⟩ := hr; rfl
 ·obtain ⟨rfl, _⟩ := hr; rfl
 ·obtain ⟨c1, c2, rfl, ⟨rfl, _⟩, ⟨rfl, _⟩⟩ := hr; rfl
 ·exact hk.elim
theorem pair_eq (dp : Nat) {kT e : TypeId} {i : TypeInfo} (hu : P.underlying kT = some (.array 2 e)) (he : P.underlying e = some (.int .i64)) (hi : P.info? e = some i) (hs : P.cellsOf e = 1) (p q p' q' : Int) :
  (Op.equalIn (dp + 2) kT (.agg #[.int .i64 p, .int .i64 q]) (.agg #[.int .i64 p', .int .i64 q'])).run P w = .ok (decide (p = p') && decide (q = q')) w := by
 have f1 : ∀ p q : Int, (part e #[.int .i64 p, .int .i64 q] (0 * 1)).run P w = .ok (.int .i64 p) w := fun p q => zsb he rfl rfl
 have f2 : ∀ p q : Int, (part e #[.int .i64 p, .int .i64 q] (1 * 1)).run P w = .ok (.int .i64 q) w := fun p q => zsb he rfl rfl
 have e1 : ∀ p q : Int, (Op.equalIn (dp + 1) e (.int .i64 p) (.int .i64 q)).run P w = .ok (p == q) w := fun p q => run_equalIn_int w dp e .i64 .i64 p q he
 rw [run_equalIn_array w (dp + 1) _ _ hu hi, hs]
 rw [show List.range 2 = [0, 1] from rfl]
 simp only [Op.eqItems, Sem.run_bind, f1, e1, Result.andThen_ok]
 by_cases h1 : p = p'
 ·subst h1
  simp only [BEq.rfl, Bool.not_true, Bool.false_eq_true, if_false, Sem.run_bind, f2, e1, Result.andThen_ok]
  by_cases h2 : q = q' <;> simp [h2]
 ·simp [h1]
def midx (kt : Ty) {vt : Ty} (x : kt.den) : List (kt.den × vt.den) → Nat → Option Nat
 | [], _ => none
 | (p, _) :: r, i => bif keq kt x p then some i else midx kt x r (i + 1)
theorem zPd {kT : TypeId} {k : Ty} (hk : KeyK P kT k) (x y : k.den) : (∃ d, P.underlying kT = some d ∧ ((Instr.sameNow d (keyV k x) (keyV k y) = some (keq k x y)) ∨ ((∀ u u', Instr.sameNow d u u' = none) ∧ ∀ w, (Op.equal kT (keyV k x) (keyV k y)).run P w = .ok (keq k x y) w))) := by
 unfold KeyK at hk
 split at hk
 ·refine ⟨_, hk, .inl ?_⟩
  show (if IntKind.i64 = IntKind.i64 then some (x == y) else none) = some (decide (x = y))
  rw [if_pos rfl]
  congr 1
 ·refine ⟨_, hk, .inl ?_⟩
  show some (x == y) = some (decide (x = y))
  rw [← str_beq, beq_toListBytes]
 ·obtain ⟨e, i, hu, he, hi, hs⟩ := hk
  exact ⟨_, hu, .inr ⟨fun u u' => rfl, fun w => pair_eq 9998 hu he hi hs _ _ _ _⟩⟩
 ·exact hk.elim
theorem zKi {kT : TypeId} {k vt : Ty} (hk : KeyK P kT k) (x : k.den) {ents : List MapEntry} {es : List (k.den × vt.den)} (h : All2 (fun (e : MapEntry) (y : k.den × vt.den) => e.key = keyV k y.1) ents es) :
  (Instr.findKey kT (keyV k x) ents).run P w = .ok ((midx k x es 0).map fun i => (i, ((ents[i]?).map (·.val)).getD undef)) w := by
 have now : ∀ (d : TypeDesc), (∀ y : k.den, Instr.sameNow d (keyV k x) (keyV k y) = some (keq k x y)) → ∀ (ents : List MapEntry) (es : List (k.den × vt.den)), All2 (fun (e : MapEntry) (y : k.den × vt.den) => e.key = keyV k y.1) ents es →
   ∀ (all : List MapEntry) (i : Nat), all.drop i = ents → Instr.findNow d (keyV k x) ents i = some ((midx k x es i).map fun i => (i, ((all[i]?).map (·.val)).getD undef)) := by
  intro d hd ents es h
  induction h with
  | nil => intro all i _; rfl
  | @cons e y ents es h1 hs ih =>
   intro all i hall
   have h0 : all[i]? = some e := by have := List.getElem?_drop (xs := all) (i := i) (j := 0); rw [hall] at this; simpa using this.symm
   unfold Instr.findNow midx
   rw [h1, hd]
   cases keq k x y.1
   ·simp only [cond_false]
    exact ih all (i + 1) (by rw [← List.tail_drop, hall]; rfl)
   ·simp only [cond_true, Option.map_some, h0, Option.getD_some]
 have ask : (∀ (y : k.den) w, (Op.equal kT (keyV k x) (keyV k y)).run P w = .ok (keq k x y) w) → ∀ (ents : List MapEntry) (es : List (k.den × vt.den)), All2 (fun (e : MapEntry) (y : k.den × vt.den) => e.key = keyV k y.1) ents es →
   ∀ (all : List MapEntry) (i : Nat), all.drop i = ents → (Instr.findAsking kT (keyV k x) ents i).run P w = .ok ((midx k x es i).map fun i => (i, ((all[i]?).map (·.val)).getD undef)) w := by
  intro hd ents es h
  induction h with
  | nil => intro all i _; rfl
  | @cons e y ents es h1 hs ih =>
   intro all i hall
   have h0 : all[i]? = some e := by have := List.getElem?_drop (xs := all) (i := i) (j := 0); rw [hall] at this; simpa using this.symm
   unfold Instr.findAsking midx
   simp only [Sem.run_bind, h1, hd, Result.andThen_ok]
   cases keq k x y.1
   ·simp only [cond_false, Bool.false_eq_true, if_false]
    exact ih all (i + 1) (by rw [← List.tail_drop, hall]; rfl)
   ·simp only [cond_true, if_true, Option.map_some, h0, Option.getD_some, Sem.run_pure]
 unfold Instr.findKey
 cases h with
 | nil =>
  obtain ⟨d, hu, _⟩ := zPd hk x x
  simp only [Sem.run_bind, run_underlying hu, Result.andThen_ok, Instr.findNow, Sem.run_pure]; rfl
 | @cons e y ents es h1 hs =>
  obtain ⟨d, hu, hd⟩ := zPd hk x y.1
  simp only [Sem.run_bind, run_underlying hu, Result.andThen_ok]
  rcases hd with hd | ⟨hn, hd⟩
  ·have hd' : ∀ y : k.den, Instr.sameNow d (keyV k x) (keyV k y) = some (keq k x y) := fun y' => by
    obtain ⟨d', hu', hd'⟩ := zPd hk x y'
    rw [hu] at hu'; injection hu' with hu'; subst hu'
    rcases hd' with hd' | ⟨hn', _⟩
    ·exact hd'
    ·rw [hn'] at hd; cases hd
   rw [now d hd' _ _ (.cons h1 hs) (e :: ents) 0 rfl, Sem.run_pure]
  ·have hd' : ∀ (y : k.den) w, (Op.equal kT (keyV k x) (keyV k y)).run P w = .ok (keq k x y) w := fun y' => by
    obtain ⟨d', hu', hd'⟩ := zPd hk x y'
    rw [hu] at hu'; injection hu' with hu'; subst hu'
    rcases hd' with hd' | ⟨_, hd'⟩
    ·rw [hn] at hd'; cases hd'
    ·exact hd'
   rw [show Instr.findNow d (keyV k x) (e :: ents) 0 = none by unfold Instr.findNow; rw [hn]]
   exact ask hd' _ _ (.cons h1 hs) (e :: ents) 0 rfl
theorem zQd {kT : TypeId} {k : Ty} (hk : KeyK P kT k) (x : k.den) (em : Bool) : (Instr.checkKey em 10000 kT (keyV k x)).run P w = .ok () w := by
 have one : ∀ (n : Nat) (T : TypeId) (u : Value), (P.underlying T = some (.int .i64) ∨ P.underlying T = some .string) → (Instr.checkKey em (n + 1) T u).run P w = .ok () w := fun n T u h => by
  rcases h with h | h <;> simp only [Instr.checkKey, Sem.run_bind, run_underlying h, Result.andThen_ok, Sem.run_pure]
 unfold KeyK at hk
 split at hk
 ·exact one 9999 _ _ (.inl hk)
 ·exact one 9999 _ _ (.inr hk)
 ·obtain ⟨e, i, hu, he, hi, hs⟩ := hk
  have hsz : (sizeOf e).run P w = .ok 1 w := by rw [run_sizeOf w hi, hs]
  have f1 : ∀ p q : Int, (part e #[.int .i64 p, .int .i64 q] (0 * 1)).run P w = .ok (.int .i64 p) w := fun p q => zsb he rfl rfl
  have f2 : ∀ p q : Int, (part e #[.int .i64 p, .int .i64 q] (1 * 1)).run P w = .ok (.int .i64 q) w := fun p q => zsb he rfl rfl
  have key : ∀ n, (Instr.checkKey em (n + 2) kT (.agg #[.int .i64 x.1, .int .i64 x.2])).run P w = .ok () w := fun n => by
   rw [Instr.checkKey]
   simp only [Sem.run_bind, run_underlying hu, Result.andThen_ok, Std.Legacy.Range.forIn_eq_forIn_range', Std.Legacy.Range.size, Nat.sub_zero, Nat.add_one_sub_one, Nat.div_one]
   rw [show List.range' 0 2 = [0, 1] from rfl]
   simp only [List.forIn_cons, List.forIn_nil, Sem.run_bind, hsz, Result.andThen_ok, f1, f2, one n e _ (.inl he), Sem.run_pure]
  exact key 9998
 ·exact hk.elim
theorem zTg {kt vt : Ty} (x : kt.den) : ∀ (es : List (kt.den × vt.den)) (i : Nat), (midx kt x es i = none ∧ mget kt vt x es = none ∧ ∀ y, mput kt vt x y es = es ++ [(x, y)]) ∨
  ∃ j q, midx kt x es i = some (i + j) ∧ es[j]? = some q ∧ keq kt x q.1 = true ∧ mget kt vt x es = some q.2 ∧ ∀ y, mput kt vt x y es = es.set j (q.1, y)
 | [], i => .inl ⟨rfl, rfl, fun y => rfl⟩
 | (p, q) :: r, i => by
  unfold midx mget
  cases hk : keq kt x p with
  | true => exact .inr ⟨0, (p, q), rfl, rfl, hk, rfl, fun y => by unfold mput; rw [hk]; rfl⟩
  | false =>
   simp only [cond_false]
   rcases zTg x r (i + 1) with ⟨h1, h2, h3⟩ | ⟨j, z, h1, h2, h3, h4, h5⟩
   ·exact .inl ⟨h1, h2, fun y => by unfold mput; rw [hk, cond_false, h3]; rfl⟩
   ·refine .inr ⟨j + 1, z, by rw [h1]; congr 1; omega, by simpa using h2, h3, h4, fun y => ?_⟩
    unfold mput; rw [hk, cond_false, h5]; rfl
theorem rdV_toD : {t : Ty} → {x : t.den} → RdV w S v x → Rp w S v (toD t x)
 | .int, x, h => by obtain ⟨rfl, g⟩ := rdV_int h; exact .int_mk g
 | .bool, x, ⟨cs, e, h⟩ => by have h : cs = [.bool x] := h; subst h e; exact .bool x
 | .str, x, h => by obtain ⟨rfl, g⟩ := rdV_str h; exact .str _ g
 | .list t, x, h => .sl t x v h
 | .tok, x, ⟨cs, e, h⟩ => by have hc := zo .tok h; obtain ⟨h, _⟩ := h; subst h e; exact .agg _ _ rfl fun i d hd => rd_of hc i d hd
 | .lit, x, ⟨cs, e, h⟩ => by have hc := zo .lit h; obtain ⟨h, _⟩ := h; subst h e; exact .agg _ _ rfl fun i d hd => rd_of hc i d hd
 | .var, x, ⟨cs, e, h⟩ => by have hc := zo .var h; obtain ⟨h, _⟩ := h; subst h e; exact .agg _ _ rfl fun i d hd => rd_of hc i d hd
 | .con, x, ⟨cs, e, h⟩ => by have hc := zo .con h; obtain ⟨_, _, _, _, h, _⟩ := h; subst h e; exact .agg _ _ rfl fun i d hd => rd_of hc i d hd
 | .mdl, x, ⟨cs, e, h⟩ => by have hc := zo .mdl h; obtain ⟨_, _, h, _⟩ := h; subst h e; exact .agg _ _ rfl fun i d hd => rd_of hc i d hd
 | .step, x, ⟨cs, e, h⟩ => by have hc := zo .step h; obtain ⟨_, h, _⟩ := h; subst h e; exact .agg _ _ rfl fun i d hd => rd_of hc i d hd
 | .term, x, ⟨cs, e, h⟩ => by have hc := zo .term h; obtain ⟨h, _⟩ := h; subst h e; exact .agg _ _ rfl fun i d hd => rd_of hc i d hd
 | .ans, x, ⟨cs, e, h⟩ => by have hc := zo .ans h; obtain ⟨_, _, h, _⟩ := h; subst h e; exact .agg _ _ rfl fun i d hd => rd_of hc i d hd
 | .pr p q, x, ⟨cs, e, h⟩ => by
  have hl := Rep.len h
  have hc := zo (.pr p q) h
  have h2 : 2 ≤ cs.length := by
   rw [hl]; show 2 ≤ @Rep.size _ (Ty.rep p) + @Rep.size _ (Ty.rep q)
   have := @Rep.pos _ (Ty.rep p); have := @Rep.pos _ (Ty.rep q); omega
  obtain _ | ⟨u, _ | ⟨u', r⟩⟩ := cs
  ·simp at h2
  ·simp at h2
  ·subst e; exact .agg _ _ (by simpa using hc.len) fun i d hd => rd_of hc i d hd
theorem zJn (F : Facts P E) (m : MtB P b0 N σ a w S pl) {T : TypeId} (ho : o.op = .makeMap T none) (h : makeMapD E A o T σ K) (hn : NextOk P b0 N o a K next) : o.wp P a w next Q := by
 have hrun : (execOp a.eval o).run P w = .ok (.value (.map (some w.heap.size))) (w.alloc (.map #[] 0)) := by
  unfold execOp; rw [ho]; simp [Instr.makeMap, newObj]; rfl
 have hnew : (w.alloc (.map #[] 0)).heap[w.heap.size]? = some (.map #[] 0) := heap_alloc_new w _
 unfold makeMapD at h
 split at h
 ·rename_i k u hl
  split at h
  ·rename_i j hj
   refine wp_val hrun (hn _ _ _ _ _ _ h (m.mk' (w' := w.alloc (.map #[] 0)) j (zrb hj) (.mp k u []) (.map (some w.heap.size)) (zOg w _) (fun b hb => by injection hb with hb; subst hb; exact ⟨Nat.le_refl _, by rw [zNg]; omega⟩) fun pl' _ => ?_) (if_pos rfl).symm)
   exact ⟨w.heap.size, rfl, by simp, #[], 0, hnew, .nil⟩
  ·exact wp_val hrun (hn _ _ _ _ _ _ h (m.newS _) (Rp.rd (.mp k u [] w.heap.size (.inr rfl) ⟨by simp, #[], 0, hnew, .nil⟩)))
 ·exact h.elim
theorem zKn (m : MtB P b0 N σ a w S pl) {u : Value} (hr : Rd w S pl u d) {kt vt : Ty} {es : List (kt.den × vt.den)} (h : mapOf σ d = some ⟨(kt, vt), es⟩) : ∃ b, u = .map (some b) ∧ MpOk w S b kt vt es := by
 unfold mapOf at h
 split at h
 ·simp only [Option.some.injEq, Sigma.mk.injEq, Prod.mk.injEq] at h
  obtain ⟨⟨rfl, rfl⟩, h⟩ := h
  subst h
  obtain ⟨b, e, _, h⟩ := (hr.flat (d := .mp _ _ _) rfl).mp_inv
  exact ⟨b, e, h⟩
 ·rename_i j
  split at h
  ·rename_i hob
   simp only [Option.some.injEq, Sigma.mk.injEq, Prod.mk.injEq] at h
   obtain ⟨⟨rfl, rfl⟩, h⟩ := h
   subst h
   obtain ⟨b, e, h⟩ := m.hp j _ hob
   have hr : u = pl j := hr
   exact ⟨b, hr.trans e, h⟩
  ·cases h
 ·cases h
theorem keys_of {kT : TypeId} {k vt : Ty} (hk : KeyK P kT k) {ents : List MapEntry} {es : List (k.den × vt.den)} (h : All2 (fun (e : MapEntry) (x : k.den × vt.den) => RdV w S e.key x.1 ∧ RdV w S e.val x.2) ents es) : All2 (fun (e : MapEntry) (y : k.den × vt.den) => e.key = keyV k y.1) ents es :=
 h.imp fun e x h => keyV_of hk h.1
theorem zLn {T kT eT : TypeId} {k vt : Ty} (hu : P.underlying T = some (.map kT eT)) (hk : KeyK P kT k) {i : TypeInfo} {z : Value} {dz : D} (hi : P.info? eT = some i) (hz : i.zero = some z) (hc : cells vt vt.dflt = [dz]) (hzb : zB z dz = true) (hz1 : z.oneCell' = true)
  {b : Nat} {es : List (k.den × vt.den)} (hm : MpOk w S b k vt es) (x : k.den) : ∃ u, RdV w S u (mgetD k vt x es) ∧ ∀ ok, (Instr.lookup T (.map (some b)) (keyV k x) ok).run P w = .ok (if ok then .tuple #[u, .bool (mhas k vt x es)] else u) w := by
 obtain ⟨_, ents, clock, hb, hes⟩ := hm
 have hget : (getObj b).run P w = .ok (.map ents clock) w := by simp [getObj, Sem.run, hb]
 have hzr : (zeroValue eT).run P w = .ok z w := by simp [zeroValue, typeInfo, hi, hz]
 have hf := zKi (w := w) hk x (keys_of hk hes)
 rcases zTg (vt := vt) x es 0 with ⟨h1, h2, _⟩ | ⟨j, q, h1, h2, h3, h4, _⟩
 ·refine ⟨z, ?_, fun ok => ?_⟩
  ·rw [mgetD, h2]
   have hr := zB_rd (w := w) (S := S) hzb
   have h1 : z.cells.toList = [z] := by cases z <;> first | rfl | (cases hz1)
   have : Rep.rd w S [z] vt.dflt := ofD_rd vt (ds := [dz]) (by rw [← hc]; exact zMd vt) (.cons hr .nil)
   exact ⟨[z], rfl, this⟩
  ·rw [h1] at hf
   unfold Instr.lookup
   simp only [Sem.run_bind, run_underlying hu, Result.andThen_ok, hget, Sem.run_pure, zQd hk, hf, Option.map_none, hzr, mhas, h2, Option.isSome_none]
 ·obtain ⟨e, he, hr⟩ := hes.at h2
  refine ⟨e.val, ?_, fun ok => ?_⟩
  ·rw [mgetD, h4]; exact hr.2
  ·rw [h1, Nat.zero_add] at hf
   have he' : (ents.toList[j]?.map (·.val)).getD undef = e.val := by rw [he]; rfl
   unfold Instr.lookup
   simp only [Sem.run_bind, run_underlying hu, Result.andThen_ok, hget, Sem.run_pure, zQd hk, hf, Option.map_some, he', mhas, h4, Option.isSome_some]
theorem zMn (F : Facts P E) (m : MtB P b0 N σ a w S pl) {T : TypeId} {x y : Operand} {ok : Bool} (ho : o.op = .lookup T x y ok) (h : lookupD E T (σ.ev x) (σ.ev y) ok σ fun d => K d σ) (hn : NextOk P b0 N o a K next) : o.wp P a w next Q := by
 have hx := ev_rd m x
 have hy := ev_rd m y
 unfold lookupD at h
 split at h
 ·rename_i kt0 vt0 kt vt es hl hm
  cases hb : decide (kt = kt0) && decide (vt = vt0) with
  | false => rw [hb] at h; exact h.elim
  | true =>
   rw [hb, cond_true] at h
   simp only [Bool.and_eq_true, decide_eq_true_eq] at hb
   obtain ⟨rfl, rfl⟩ := hb
   obtain ⟨kT, eT, i, z, dz, hu, hk, hi, hz, hc, hzb, hz1⟩ := F.mps T _ _ hl
   obtain ⟨b, hv, hmp⟩ := zKn m hx hm
   split at h
   ·rename_i p hp
    obtain ⟨hkv, _⟩ := keyD_rd hp hy
    obtain ⟨u, hu1, hu2⟩ := zLn hu hk hi hz hc hzb hz1 hmp p
    have hrun : ∀ ok', ok = ok' → (execOp a.eval o).run P w = .ok (.value (if ok' then .tuple #[u, .bool (mhas kt vt p es)] else u)) w := fun ok' e => by
     subst e
     unfold execOp; rw [ho]
     simp only [Sem.run_bind, hv, hkv, hu2, Result.andThen_ok, Sem.run_pure]
    cases ok with
    | true => exact wp_val (hrun true rfl) (hn _ _ _ _ _ _ h m (Rp.rd (.tup _ _ rfl fun i d hd => by
      match i, hd with
      | 0, hd => simp at hd; subst hd; exact rdV_toD hu1
      | 1, hd => simp at hd; subst hd; exact .bool _
      | i + 2, hd => simp at hd)))
    | false => exact wp_val (hrun false rfl) (hn _ _ _ _ _ _ h m (rdV_toD hu1).rd)
   ·exact h.elim
 ·exact h.elim
theorem zNn {b : Nat} {o' : Obj} (hb : b < w.heap.size) : ({ w with heap := w.heap.setIfInBounds b o' } : World).heap[b]? = some o' ∧ (∀ c, c ≠ b → ({ w with heap := w.heap.setIfInBounds b o' } : World).heap[c]? = w.heap[c]?) ∧ ({ w with heap := w.heap.setIfInBounds b o' } : World).heap.size = w.heap.size :=
 ⟨by simp [hb], fun c hc => by simp [Array.getElem?_setIfInBounds, Ne.symm hc], by simp⟩
theorem keyStays {k : Ty} {kT : TypeId} (hk : KeyK P kT k) {x y : k.den} (h : keq k x y = true) : keyV k x = keyV k y ∧ Instr.sameBits 10000 (keyV k y) (keyV k x) = true := by
 unfold KeyK at hk
 split at hk
 ·have e : x = y := of_decide_eq_true h
  subst e
  exact ⟨rfl, by show (IntKind.i64 == IntKind.i64 && (x : Int) == x) = true; simp⟩
 ·have e : x = y := of_decide_eq_true h
  subst e
  exact ⟨rfl, by show ((x : ByteArray) == x) = true; rw [beq_toListBytes, str_beq]; simp⟩
 ·simp only [keq, Bool.and_eq_true, decide_eq_true_eq] at h
  obtain ⟨x1, x2⟩ := x
  obtain ⟨y1, y2⟩ := y
  obtain ⟨e1, e2⟩ := h
  have e1 : x1 = y1 := e1
  have e2 : x2 = y2 := e2
  subst e1 e2
  refine ⟨rfl, ?_⟩
  show ((2 : Nat) == 2 && [(Value.int .i64 x1, Value.int .i64 x1), (Value.int .i64 x2, Value.int .i64 x2)].all fun (p : Value × Value) => Instr.sameBits 9999 p.1 p.2) = true
  simp [Instr.sameBits]
 ·exact hk.elim
theorem All2.set {α β : Type} {R : α → β → Prop} : ∀ {xs : List α} {ys : List β}, All2 R xs ys → ∀ (i : Nat) {a : α} {b : β}, R a b → All2 R (xs.set i a) (ys.set i b)
 | _, _, .nil, _, _, _, _ => by simp; exact .nil
 | _, _, .cons h hs, 0, _, _, hr => .cons hr hs
 | _, _, .cons h hs, i + 1, _, _, hr => .cons h (hs.set i hr)
theorem zOn (F : Facts P E) (m : MtB P b0 N σ a w S pl) {T : TypeId} {x y z : Operand} (ho : o.op = .mapUpdate T x y z) (h : mapUpdateD E A T (σ.ev x) (σ.ev y) (σ.ev z) σ K) (hn : NextOk P b0 N o a K next) : o.wp P a w next Q := by
 have hx := ev_rd m x
 have hy := ev_rd m y
 unfold mapUpdateD at h
 split at h
 ·rename_i kt0 vt0 j hl ex
  rw [ex] at hx
  have hx : a.eval x = pl j := hx
  obtain ⟨σ', ds', S', hK, hS, m', hv⟩ := zM h m
  have hz := hv [a.eval z] (.cons (ev_rd m z) .nil)
  split at hK
  ·rename_i kt vt es hob
   cases hb : decide (kt = kt0) && decide (vt = vt0) with
   | false => rw [hb] at hK; exact hK.elim
   | true =>
    rw [hb, cond_true] at hK
    simp only [Bool.and_eq_true, decide_eq_true_eq] at hb
    obtain ⟨rfl, rfl⟩ := hb
    obtain ⟨kT, eT, i, zz, dz, hu, hk, hi, hzz, hc, hzb, hz1⟩ := F.mps T _ _ hl
    split at hK
    ·rename_i p q hp hq
     obtain ⟨hroom, hK⟩ := hK
     have hroom : es.length + 1 ≤ 140737488355328 := of_decide_eq_true hroom
     obtain ⟨hkv, hkr⟩ := keyD_rd hp hy
     have hkr := hkr.mono (w' := w) (fun _ _ => rfl) hS
     have hqr : RdV w S' (a.eval z) q := by
      have h1 := ofD_rd vt hq hz
      refine ⟨[a.eval z], rfl, h1⟩
     obtain ⟨b, hpl, h0, ents, clock, hbk, hes⟩ := m'.hp j _ hob
     have hlt : b < w.heap.size := (m'.priv j _ b hob (by rw [hpl]; rfl)).2.1
     have hnS : ¬ S' b := (m'.priv j _ b hob (by rw [hpl]; rfl)).2.2
     have hget : (getObj b).run P w = .ok (.map ents clock) w := by simp [getObj, Sem.run, hbk]
     have hset : ∀ o', (setObj b o').run P w = .ok () { w with heap := w.heap.setIfInBounds b o' } := fun o' => by simp [setObj, Sem.run, hbk]
     have hf := zKi (w := w) hk p (keys_of hk hes)
     have fin : ∀ (ents' : Array MapEntry) (clock' : Nat) (es' : List (kt.den × vt.den)), es' = mput kt vt p q es → es'.length ≤ 140737488355328 → All2 (fun (e : MapEntry) (x : kt.den × vt.den) => RdV w S' e.key x.1 ∧ RdV w S' e.val x.2) ents'.toList es' →
       (Instr.mapUpdate T (.map (some b)) (keyV kt p) (a.eval z)).run P w = .ok () { w with heap := w.heap.setIfInBounds b (.map ents' clock') } → o.wp P a w next Q := by
      intro ents' clock' es' he hle hall hrun
      obtain ⟨g1, g2, g3⟩ := zNn (w := w) (o' := .map ents' clock') hlt
      have hop : (execOp a.eval o).run P w = .ok .skip { w with heap := w.heap.setIfInBounds b (.map ents' clock') } := by
       unfold execOp; rw [ho]
       simp only [Sem.run_bind, hx, hpl, hkv, hrun, Result.andThen_ok, Sem.run_pure]
      subst he
      refine wp_skp hop (hn _ _ _ _ _ _ hK (m'.setOb hob (by rw [hpl]; rfl) g2 g3 ⟨rfl, rfl, rfl⟩ ?_) zA)
      exact ⟨b, hpl, hle, ents', clock', g1, hall.imp fun _ _ h => ⟨h.1.mono (fun c hc => g2 c fun e => hnS (e ▸ hc)) fun _ h => h, h.2.mono (fun c hc => g2 c fun e => hnS (e ▸ hc)) fun _ h => h⟩⟩
     rcases zTg (vt := vt) p es 0 with ⟨h1, h2, h3⟩ | ⟨j', e', h1, h2, h3, h4, h5⟩
     ·refine fin (ents.push { key := keyV kt p, val := a.eval z, born := clock }) (clock + 1) (es ++ [(p, q)]) (h3 q).symm (by simp; omega) ?_ ?_
      ·rw [Array.toList_push]
       exact hes.append (.cons ⟨by rw [← hkv]; exact hkr, hqr⟩ .nil)
      ·rw [h1] at hf
       unfold Instr.mapUpdate
       simp only [Sem.run_bind, run_underlying hu, Result.andThen_ok, hget, zQd hk, hf, Option.map_none, hset]
     ·obtain ⟨e0, he0, hr0⟩ := hes.at h2
      rw [Nat.zero_add] at h1
      have hk0 : e0.key = keyV kt e'.1 := keyV_of hk hr0.1
      obtain ⟨ek, hsb⟩ := keyStays (P := P) hk h3
      refine fin (ents.modify j' fun e => { e with key := keyV kt p, val := a.eval z }) clock (es.set j' (e'.1, q)) (h5 q).symm (by simp; omega) ?_ ?_
      ·have : (ents.modify j' fun e => { e with key := keyV kt p, val := a.eval z }).toList = ents.toList.set j' { e0 with key := keyV kt p, val := a.eval z } := by
        apply List.ext_getElem?
        intro n
        rw [Array.getElem?_toList, Array.getElem?_modify, List.getElem?_set]
        by_cases hn' : j' = n
        ·subst hn'
         have hlt' := (List.getElem?_eq_some_iff.1 he0).1
         rw [if_pos rfl, if_pos rfl, if_pos hlt', ← Array.getElem?_toList, he0]; rfl
        ·rw [if_neg hn', if_neg hn', Array.getElem?_toList]
       rw [this]
       exact hes.set j' ⟨by show RdV w S' (keyV kt p) e'.1; rw [ek, ← hk0]; exact hr0.1, hqr⟩
      ·rw [h1] at hf
       have hkey : (((ents[j']?).map (·.key)).getD (keyV kt p)) = keyV kt e'.1 := by rw [← Array.getElem?_toList, he0]; exact hk0
       unfold Instr.mapUpdate
       simp only [Sem.run_bind, run_underlying hu, Result.andThen_ok, hget, zQd hk, hf, Option.map_some, hkey, Instr.keyThatStays, hsb, if_true, Sem.run_pure, hset]
    ·exact hK.elim
  ·exact hK.elim
 ·exact h.elim
end
end Go.Proofs.YtajnbkhgnppckaaGreatDoor
/- A denotation of the program's code on plain data: calls of functions that are handed what the caller owns. -/
namespace Go.Proofs.YtajnbkhgnppckaaGreatDoor
open Go.RowKit
set_option linter.unusedVariables false
set_option linter.unusedSimpArgs false
section
variable {P : Program} {E : TE} {A : Ann} {b0 : Base} {w w' : World} {S S' : Nat → Prop} {pl pl' : Nat → Value} {N : Nat} {σ : St} {a : Act} {v : Value} {d : D} {o : Oper} {K : D → St → Prop} {next : Act → World → Prop} {Q : Exit → Act → World → Prop}
theorem zUg {k : Nat} : ∀ {l : List Nat}, memN k l = true ↔ k ∈ l
 | [] => by simp [memN]
 | i :: r => by
  unfold memN
  cases hb : Nat.beq i k with
  | true => rw [zb.1 hb]; simp
  | false =>
   rw [cond_false, zUg, List.mem_cons]
   refine ⟨.inr, fun h => h.resolve_left fun e => ?_⟩
   rw [e, zb.2 rfl] at hb; cases hb
theorem zRd {k : Nat} {l : List Nat} : memN k l = false ↔ k ∉ l := by
 rw [← zUg]; cases memN k l <;> simp
theorem zMb {α : Type} {k : Nat} {o : α} : ∀ {l : List (Nat × α)}, nodupB (l.map (·.1)) = true → (k, o) ∈ l → look k l = some o
 | [], _, h => by cases h
 | (i, x) :: r, hn, h => by
  simp only [List.map_cons, nodupB, Bool.and_eq_true, Bool.not_eq_true'] at hn
  rw [zd]
  rcases List.mem_cons.1 h with h | h
  ·injection h with h1 h2; subst h1 h2; rw [if_pos rfl]
  ·rw [if_neg, zMb hn.2 h]
   intro e; subst e
   exact zRd.1 hn.1 (List.mem_map.2 ⟨_, h, rfl⟩)
theorem inv_fst (ρ : List (Nat × Nat)) : (inv ρ).map (·.1) = ρ.map (·.2) := by simp [inv]
theorem zSd {ρ : List (Nat × Nat)} (hn : nodupB (ρ.map (·.2)) = true) {k c : Nat} (h : (k, c) ∈ ρ) : look c (inv ρ) = some k :=
 zMb (by rw [inv_fst]; exact hn) (List.mem_map.2 ⟨_, h, rfl⟩)
theorem mem_inv {ρ : List (Nat × Nat)} {k c : Nat} (h : look c (inv ρ) = some k) : (k, c) ∈ ρ := by
 obtain ⟨x, hx, e⟩ := List.mem_map.1 (zU h)
 injection e with e1 e2; subst e1 e2; exact hx
theorem ren_rd {ρ : List (Nat × Nat)} (hρ : ∀ k j, look k ρ = some j → pl' j = pl k) (h : Rd w S pl v d) : Rd w S pl' v (d.ren ρ) := by
 cases hr : d.ref with
 | none =>
  have e : d.ren ρ = d := by cases d <;> first | rfl | (simp [D.ref] at hr)
  rw [e]; exact (h.flat hr).rd
 | some k =>
  cases d <;> simp only [D.ref, Option.some.injEq, reduceCtorEq] at hr
  all_goals
   subst hr
   simp only [D.ren]
   split
   ·rename_i j hj
    simp only [Rd] at h ⊢
    rw [hρ _ _ hj]; exact h
   ·exact zA
theorem zPn {ρ : List (Nat × Nat)} {d : D} (h : isCell (d.ren ρ) = true) : isCell d = true := by
 cases d <;> first | rfl | exact h
theorem ren_ob {ρ : List (Nat × Nat)} {p : Value} {o : HObj} (hρ : ∀ k j, look k ρ = some j → pl' j = pl k) (h : ObOk w S pl p o) : ObOk w S pl' p (o.ren ρ) := by
 cases o with
 | cells ds =>
  obtain ⟨b, vs, T, e1, e2, e3, e4⟩ := h
  refine ⟨b, vs, T, e1, e2, by simpa using e3, fun i d hd => ?_⟩
  simp only [List.getElem?_map, Option.map_eq_some_iff] at hd
  obtain ⟨d0, hd0, rfl⟩ := hd
  exact ren_rd hρ (e4 i d0 hd0)
 | row e t xs => exact h
 | mp kt vt es => exact h
 | val ds =>
  obtain ⟨vs, e1, e3, e4⟩ := h
  refine ⟨vs, e1, by simpa using e3, fun i d hd => ?_⟩
  simp only [List.getElem?_map, Option.map_eq_some_iff] at hd
  obtain ⟨d0, hd0, rfl⟩ := hd
  exact ⟨ren_rd hρ (e4 i d0 hd0).1, fun hc => (e4 i d0 hd0).2 (zPn hc)⟩
theorem zNb {ob : Nat → Option HObj} {ρ : List (Nat × Nat)} {c : Nat} {o : HObj} : ∀ {l : List (Nat × Nat)}, look c (picked ob ρ l) = some o → ∃ k o', (k, c) ∈ l ∧ ob k = some o' ∧ o = o'.ren ρ
 | [], h => by cases h
 | (k, c') :: r, h => by
  unfold picked at h
  cases ho : ob k with
  | none =>
   rw [ho] at h
   obtain ⟨k', o', h1, h2⟩ := zNb (l := r) h
   exact ⟨k', o', List.mem_cons_of_mem _ h1, h2⟩
  | some o' =>
   rw [ho] at h
   simp only [zd] at h
   split at h
   ·rename_i e; subst e; injection h with h; exact ⟨k, o', List.mem_cons_self, ho, h.symm⟩
   ·obtain ⟨k', o', h1, h2⟩ := zNb (l := r) h
    exact ⟨k', o', List.mem_cons_of_mem _ h1, h2⟩
def plC (ρ : List (Nat × Nat)) (pl : Nat → Value) (c : Nat) : Value := match look c (inv ρ) with
 | some k => pl k
 | none => pl c
theorem plC_of {ρ : List (Nat × Nat)} (hn : nodupB (ρ.map (·.2)) = true) {k c : Nat} (h : (k, c) ∈ ρ) : plC ρ pl c = pl k := by
 unfold plC; rw [zSd hn h]
theorem zLi (m : MtB P b0 N σ a w S pl) {ρ : List (Nat × Nat)} (hn1 : nodupB (ρ.map (·.1)) = true) (hn : nodupB (ρ.map (·.2)) = true) : HOk w S (plC ρ pl) (picked σ.ob ρ ρ) where
 ok := fun c o h => by
  obtain ⟨k, o', h1, h2, rfl⟩ := zNb h
  rw [plC_of hn h1]
  exact ren_ob (fun k j hj => plC_of hn (zU hj)) (m.hp k o' h2)
 priv := fun c o b h hb => by
  obtain ⟨k, o', h1, h2, rfl⟩ := zNb h
  rw [plC_of hn h1] at hb
  exact (m.priv k o' b h2 hb).2
 inj := fun c c' o o' b h h' hb hb' => by
  obtain ⟨k, o1, h1, h2, rfl⟩ := zNb h
  obtain ⟨k', o2, h1', h2', rfl⟩ := zNb h'
  rw [plC_of hn h1] at hb
  rw [plC_of hn h1'] at hb'
  have e := m.inj k k' o1 o2 b h2 h2' hb hb'
  subst e
  have := zMb hn1 h1
  rw [zMb hn1 h1'] at this
  injection this with this; exact this.symm
theorem hblk_of {ρ : List (Nat × Nat)} (hn : nodupB (ρ.map (·.2)) = true) {b : Nat} (h : HBlk (plC ρ pl) (picked σ.ob ρ ρ) b) : ∃ k c o, (k, c) ∈ ρ ∧ look k σ.hp = some o ∧ oblk (pl k) = some b := by
 obtain ⟨c, o, h1, h2⟩ := h
 obtain ⟨k, o', h3, h4, rfl⟩ := zNb h1
 rw [plC_of hn h3] at h2
 exact ⟨k, c, o', h3, h4, h2⟩
theorem zVg {α : Type} {ks : List Nat} {k : Nat} {o : α} : ∀ {l : List (Nat × α)}, look k (dropAll ks l) = some o → k ∉ ks ∧ look k l = some o
 | [], h => by cases h
 | (i, x) :: r, h => by
  unfold dropAll at h
  cases hm : memN i ks with
  | true =>
   rw [hm, cond_true] at h
   obtain ⟨h1, h2⟩ := zVg h
   refine ⟨h1, ?_⟩
   rw [zd, if_neg]
   ·exact h2
   ·intro e; subst e; exact h1 (zUg.1 hm)
  | false =>
   rw [hm, cond_false, zd] at h
   rw [zd]
   split at h
   ·rename_i e; subst e; rw [if_pos rfl]; exact ⟨zRd.1 hm, h⟩
   ·rename_i e; rw [if_neg e]; exact zVg h
theorem zMi {α : Type} {k : Nat} {o : α} : ∀ {l l' : List (Nat × α)}, look k (l ++ l') = some o → (k, o) ∈ l ∨ (look k l' = some o)
 | [], l', h => .inr h
 | (i, x) :: r, l', h => by
  rw [List.cons_append, zd] at h
  split at h
  ·rename_i e; subst e; injection h with h; subst h; exact .inl List.mem_cons_self
  ·rcases zMi h with h | h
   ·exact .inl (List.mem_cons_of_mem _ h)
   ·exact .inr h
theorem zQn {ks : List Nat} {d : D} (h : isCell (killAll ks d) = true) : isCell d = true := by
 cases d <;> first | rfl | exact h
theorem zWg {ks : List Nat} (h : Rd w S pl v d) (hk : ∀ b, S b → w'.heap[b]? = w.heap[b]?) (hS : ∀ b, S b → S' b) (hp : ∀ k, k ∉ ks → d.ref = some k → pl' k = pl k) : Rd w' S' pl' v (killAll ks d) := by
 unfold killAll
 split
 ·rename_i j hj
  cases hm : memN j ks with
  | true => rw [cond_true]; exact zA
  | false => rw [cond_false]; exact h.mono hk hS fun k hk' => hp k (by rw [hj] at hk'; injection hk' with hk'; subst hk'; exact zRd.1 hm) hk'
 ·rename_i hj; exact h.mono hk hS fun k hk' => by rw [hj] at hk'; cases hk'
theorem MtB.after (m : MtB P b0 N σ a w S pl) {ρ : List (Nat × Nat)} {dst : Nat} {h' : List (Nat × HObj)} (hc : hChk σ ρ dst h' = true) {S1 : Nat → Prop} {pl1 : Nat → Value} (g1 : HOk w' S1 pl1 h') (g2 : ∀ b, S1 b → b < w'.heap.size)
  (g3 : ∀ b, S1 b → S b ∨ HBlk (plC ρ pl) (picked σ.ob ρ ρ) b ∨ w.heap.size ≤ b) (g4 : ∀ b, HBlk pl1 h' b → HBlk (plC ρ pl) (picked σ.ob ρ ρ) b ∨ w.heap.size ≤ b) (g5 : ∀ k, stabK k = true → pl1 k = plC ρ pl k)
  (g6 : BelowX w.heap.size (HBlk (plC ρ pl) (picked σ.ob ρ ρ)) w w') :
  ∃ pl2, MtB P b0 N (σ.after ρ dst h') a w' (fun b => S b ∨ S1 b) pl2 ∧ ∀ v d, Rd w' S1 pl1 v d → Rd w' (fun b => S b ∨ S1 b) pl2 v (d.ren (h'.map fun x => (x.1, backKey (inv ρ) dst x.1))) := by
 simp only [hChk, Bool.and_eq_true] at hc
 obtain ⟨⟨⟨⟨⟨n1, n2⟩, n3⟩, n4⟩, c1⟩, c2⟩ := hc
 have c1' : ∀ k c, (k, c) ∈ ρ → (stabK k = true → stabK c = true) ∧ c < 3000 := fun k c hm => by
  have := List.all_eq_true.1 c1 _ hm
  simp only [Bool.and_eq_true, Bool.or_eq_true, Bool.not_eq_true'] at this
  exact ⟨fun hs => by rcases this.1 with h | h; rw [hs] at h; cases h; exact h, Nat.le_of_ble_eq_true this.2⟩
 let f : Nat × HObj → Nat × Nat := fun x => (x.1, backKey (inv ρ) dst x.1)
 let β := h'.map f
 have nb2 : nodupB (β.map (·.2)) = true := by rw [List.map_map]; exact n4
 have nb1 : nodupB (β.map (·.1)) = true := by rw [List.map_map]; exact n3
 let pl2 : Nat → Value := fun k => match look k (inv β) with
  | some c => pl1 c
  | none => pl k
 have e2 : ∀ c k, (c, k) ∈ β → pl2 k = pl1 c := fun c k h => by
  show (match look k (inv β) with | some c => pl1 c | none => pl k) = _
  rw [zSd nb2 h]
 have hwB : ∀ b, HBlk (plC ρ pl) (picked σ.ob ρ ρ) b → b < w.heap.size ∧ ¬ S b ∧ (b0.O b ∨ b0.w.heap.size ≤ b) := fun b hb => by
  obtain ⟨k, c, o, h1, h2, h3⟩ := hblk_of n2 hb
  have := m.priv k o b h2 h3
  exact ⟨this.2.1, this.2.2, this.1⟩
 have hS : ∀ b, S b → w'.heap[b]? = w.heap[b]? := fun b hb => g6.block b (m.lt b hb) fun hh => (hwB b hh).2.1 hb
 let dead := ((ρ.filter fun x => !stabK x.2 || !(memN x.2 (h'.map (·.1)))).map (·.1)) ++ (β.filter fun x => !(memN x.1 (ρ.map (·.2)))).map (·.2)
 have keep : ∀ k, k ∉ dead → pl2 k = pl k := fun k hk => by
  show (match look k (inv β) with | some c => pl1 c | none => pl k) = _
  cases hl : look k (inv β) with
  | none => rfl
  | some c =>
   simp only
   have hm := mem_inv hl
   obtain ⟨x, hx, e⟩ := List.mem_map.1 hm
   by_cases hr : c ∈ ρ.map (·.2)
   ·obtain ⟨⟨k0, c0⟩, h0, e0⟩ := List.mem_map.1 hr
    simp only at e0; subst e0
    have hb : backKey (inv ρ) dst c0 = k0 := by unfold backKey; rw [zSd n2 h0]
    have e1 : x.1 = c0 := congrArg Prod.fst e
    have e3 : backKey (inv ρ) dst x.1 = k := congrArg Prod.snd e
    rw [e1, hb] at e3; subst e3
    have hnd : ¬ (!stabK c0 || !(memN c0 (h'.map (·.1)))) = true := fun hh => hk (List.mem_append_left _ (List.mem_map.2 ⟨(k0, c0), List.mem_filter.2 ⟨h0, hh⟩, rfl⟩))
    simp only [Bool.or_eq_true, not_or] at hnd
    have hst : stabK c0 = true := by simpa using hnd.1
    rw [g5 c0 hst, plC_of n2 h0]
   ·exact absurd (List.mem_append_right _ (List.mem_map.2 ⟨(c, k), List.mem_filter.2 ⟨hm, by rw [Bool.not_eq_true', zRd]; exact hr⟩, rfl⟩)) hk
 have e1 : ∀ i, (σ.after ρ dst h').get i = killAll dead (σ.get i) := fun i => by
  show D.or (look i (σ.fr.map fun x => (x.1, killAll dead x.2))) = _
  rw [zK]
  unfold St.get
  cases look i σ.fr <;> rfl
 have hold : ∀ k o, look k (σ.after ρ dst h').hp = some o → (∃ c o', look c h' = some o' ∧ (c, k) ∈ β ∧ o = o'.ren β) ∨ ((k ∉ ρ.map (·.1)) ∧ k ∉ β.map (·.2) ∧ ∃ o0, look k σ.hp = some o0 ∧ o = o0.map (killAll dead)) := fun k o h => by
  rcases zMi h with h | h
  ·left
   obtain ⟨x, hx, e⟩ := List.mem_map.1 h
   injection e with e3 e4
   exact ⟨x.1, x.2, zMb n3 hx, List.mem_map.2 ⟨x, hx, by show (x.1, backKey (inv ρ) dst x.1) = _; rw [e3]⟩, e4.symm⟩
  ·right
   obtain ⟨h1, h2⟩ := zVg h
   rw [zK] at h2
   simp only [List.mem_append, not_or] at h1
   refine ⟨h1.1, h1.2, ?_⟩
   cases h0 : look k σ.hp with
   | none => rw [h0] at h2; cases h2
   | some o0 => rw [h0] at h2; injection h2 with h2; exact ⟨o0, rfl, h2.symm⟩
 have other : ∀ k o0 b, k ∉ ρ.map (·.1) → look k σ.hp = some o0 → oblk (pl k) = some b → ¬ HBlk (plC ρ pl) (picked σ.ob ρ ρ) b := fun k o0 b hk h0 hb hh => by
  obtain ⟨k', c, o, h1, h2, h3⟩ := hblk_of n2 hh
  have := m.inj k k' o0 o b h0 h2 hb h3
  subst this
  exact hk (List.mem_map.2 ⟨_, h1, rfl⟩)
 have place : ∀ k, k ∉ β.map (·.2) → pl2 k = pl k := fun k hk => by
  show (match look k (inv β) with | some c => pl1 c | none => pl k) = _
  cases hl : look k (inv β) with
  | none => rfl
  | some c => exact absurd (List.mem_map.2 ⟨_, mem_inv hl, rfl⟩) hk
 refine ⟨pl2, ⟨m.dz, m.sz, fun i => ?_, fun k o h => ?_, fun b hb => ?_, fun b hb => ?_, fun k o b h hb => ?_, fun k k' o o' b h hh hb hb' => ?_, ?_, fun k hk => ?_, m.gok⟩, fun v d h => ?_⟩
 ·rw [e1]
  exact zWg (m.fr i) hS (fun b hb => .inl hb) fun k hk _ => keep k hk
 ·rcases hold k o h with ⟨c, o', h1, h2, rfl⟩ | ⟨h1, h2, o0, h3, rfl⟩
  ·rw [e2 c k h2]
   refine ren_ob (fun c j hj => e2 c j (zU hj)) ?_
   exact (g1.ok c o' h1).mono (pl := pl1) (fun _ _ => rfl) (fun _ _ => rfl) (fun b hb => .inr hb) fun _ _ _ _ => rfl
  ·rw [place k h2]
   have h0 := m.hp k o0 h3
   have hb : ∀ b, oblk (pl k) = some b → w'.heap[b]? = w.heap[b]? := fun b hb => g6.block b (m.priv k o0 b h3 hb).2.1 (other k o0 b h1 h3 hb)
   cases o0 with
   | cells ds =>
    obtain ⟨b, vs, T, q1, q2, q3, q4⟩ := h0
    refine ⟨b, vs, T, q1, by rw [hb b (by rw [q1]; rfl)]; exact q2, by simpa using q3, fun i d hd => ?_⟩
    simp only [List.getElem?_map, Option.map_eq_some_iff] at hd
    obtain ⟨d0, hd0, rfl⟩ := hd
    exact zWg (q4 i d0 hd0) hS (fun b hb => .inl hb) fun k hk _ => keep k hk
   | row e t xs => exact ObOk.mono (pl := pl) (pl' := pl2) h0 hS hb (fun b hb => .inl hb) fun _ _ e => by cases e
   | mp kt vt es => exact ObOk.mono (pl := pl) (pl' := pl2) h0 hS hb (fun b hb => .inl hb) fun _ _ e => by cases e
   | val ds =>
    obtain ⟨vs, q1, q3, q4⟩ := h0
    refine ⟨vs, q1, by simpa using q3, fun i d hd => ?_⟩
    simp only [List.getElem?_map, Option.map_eq_some_iff] at hd
    obtain ⟨d0, hd0, rfl⟩ := hd
    exact ⟨zWg (q4 i d0 hd0).1 hS (fun b hb => .inl hb) fun k hk _ => keep k hk, fun hc => (q4 i d0 hd0).2 (zQn hc)⟩
 ·rcases hb with hb | hb
  ·exact Nat.lt_of_lt_of_le (m.lt b hb) g6.size
  ·exact g2 b hb
 ·rcases hb with hb | hb
  ·exact m.src b hb
  ·rcases g3 b hb with hb | hb | hb
   ·exact m.src b hb
   ·exact .inr (hwB b hb).2.2
   ·exact .inr (.inr (Nat.le_trans m.below.size hb))
 ·rcases hold k o h with ⟨c, o', h1, h2, rfl⟩ | ⟨h1, h2, o0, h3, rfl⟩
  ·rw [e2 c k h2] at hb
   obtain ⟨p1, p2⟩ := g1.priv c o' b h1 hb
   rcases g4 b ⟨c, o', h1, hb⟩ with hh | hh
   ·have := hwB b hh
    exact ⟨this.2.2, p1, fun hs => hs.elim this.2.1 p2⟩
   ·exact ⟨.inr (Nat.le_trans m.below.size hh), p1, fun hs => hs.elim (fun hs => by have := m.lt b hs; omega) p2⟩
  ·rw [place k h2] at hb
   obtain ⟨p1, p2, p3⟩ := m.priv k o0 b h3 hb
   refine ⟨p1, Nat.lt_of_lt_of_le p2 g6.size, fun hs => ?_⟩
   rcases hs with hs | hs
   ·exact p3 hs
   ·rcases g3 b hs with hs | hs | hs
    ·exact p3 hs
    ·exact other k o0 b h1 h3 hb hs
    ·omega
 ·rcases hold k o h with ⟨c, o1, h1, h2, rfl⟩ | ⟨h1, h2, o0, h3, rfl⟩ <;> rcases hold k' o' hh with ⟨c', o2, h1', h2', rfl⟩ | ⟨h1', h2', o0', h3', rfl⟩
  ·rw [e2 c k h2] at hb
   rw [e2 c' k' h2'] at hb'
   have := g1.inj c c' o1 o2 b h1 h1' hb hb'
   subst this
   have e3 := zMb nb1 h2
   rw [zMb nb1 h2'] at e3
   injection e3 with e3; exact e3.symm
  ·rw [e2 c k h2] at hb
   rw [place k' h2'] at hb'
   rcases g4 b ⟨c, o1, h1, hb⟩ with hh | hh
   ·exact (other k' o0' b h1' h3' hb' hh).elim
   ·have := (m.priv k' o0' b h3' hb').2.1; omega
  ·rw [place k h2] at hb
   rw [e2 c' k' h2'] at hb'
   rcases g4 b ⟨c', o2, h1', hb'⟩ with hh | hh
   ·exact (other k o0 b h1 h3 hb hh).elim
   ·have := (m.priv k o0 b h3 hb).2.1; omega
  ·rw [place k h2] at hb
   rw [place k' h2'] at hb'
   exact m.inj k k' o0 o0' b h3 h3' hb hb'
 ·exact ⟨g6.os.trans m.below.os, g6.tape.trans m.below.tape, g6.output.trans m.below.output, Nat.le_trans m.below.size g6.size, fun c hc hO => by
   refine (g6.block c (Nat.lt_of_lt_of_le hc m.below.size) fun hh => ?_).trans (m.below.block c hc hO)
   rcases (hwB c hh).2.2 with h | h
   ·exact hO h
   ·omega⟩
 · -- a place that stays
  refine Eq.trans ?_ (m.stay k hk)
  show (match look k (inv β) with | some c => pl1 c | none => pl k) = _
  cases hl : look k (inv β) with
  | none => rfl
  | some c =>
   simp only
   obtain ⟨x, hx, e⟩ := List.mem_map.1 (mem_inv hl)
   have e1 : x.1 = c := congrArg Prod.fst e
   have e3 : backKey (inv ρ) dst x.1 = k := congrArg Prod.snd e
   by_cases hr : c ∈ ρ.map (·.2)
   ·obtain ⟨⟨k0, c0⟩, h0, e0⟩ := List.mem_map.1 hr
    simp only at e0; subst e0
    have hb : backKey (inv ρ) dst c0 = k0 := by unfold backKey; rw [zSd n2 h0]
    rw [e1, hb] at e3; subst e3
    rw [g5 c0 ((c1' k0 c0 h0).1 hk), plC_of n2 h0]
   ·exfalso
    have hn : look c (inv ρ) = none := by
     cases hh : look c (inv ρ) with
     | none => rfl
     | some k0 => exact absurd (List.mem_map.2 ⟨_, mem_inv hh, rfl⟩) hr
    rw [e1] at e3
    simp only [backKey, hn] at e3
    simp only [stabK, Bool.and_eq_true] at hk
    have h2 := Nat.le_of_ble_eq_true hk.2
    omega
 ·exact ren_rd (fun c j hj => e2 c j (zU hj)) (h.mono (fun _ _ => rfl) (fun b hb => .inr hb) fun _ _ => rfl)
theorem zRn (k off : Nat) : stabK (nilKey k off) = false := by
 unfold stabK nilKey
 cases h : Nat.ble 1000 (1000000 + 1000 * k + off) && Nat.blt (1000000 + 1000 * k + off) 2000 with
 | false => rfl
 | true =>
  simp only [Bool.and_eq_true] at h
  have := Nat.le_of_ble_eq_true h.2
  omega
theorem zNi (m : MtB P b0 N σ a w S pl) (k off : Nat) (e : TypeId) (t : Ty) : ∃ pl', MtB P b0 N (nilRow σ k off e t) a w S pl' ∧ ∀ v d, d.ref ≠ some (nilKey k off) → Rd w S pl v d → Rd w S pl' v d := by
 unfold nilRow
 split
 ·rename_i ds hob
  split
  ·rename_i hnil
   cases hb : Nat.beq k (nilKey k off) with
   | true => exact ⟨pl, m, fun _ _ _ h => h⟩
   | false =>
    rw [cond_false]
    have hne : k ≠ nilKey k off := fun e => by rw [← e, zb.2 rfl] at hb; cases hb
    have m1 := m.mk' (w' := w) (nilKey k off) (zRn k off) (.row e t []) (.slice none 0 0) (Below.refl _ _) (fun b hb => by cases hb) fun pl' _ => ⟨by simp [lim], [], rfl, by simpa using World.ownsRow_nil w 0 e t.size, by simp, by simp⟩
    have hob1 : look k (σ.mk' (nilKey k off) (.row e t [])).hp = some (.cells (ds.map (D.kill (nilKey k off)))) := by
     simp only [St.mk', zd, zp, if_neg (Ne.symm hne), St.map, zK]
     have : look k σ.hp = some (.cells ds) := hob
     rw [this]; rfl
    obtain ⟨b, vs, T, q1, q2, q3, q4⟩ := m1.hp k _ hob1
    refine ⟨_, m1.setOb (w' := w) hob1 (b := b) (by rw [q1]; rfl) (fun _ _ => rfl) rfl ⟨rfl, rfl, rfl⟩ ?_, fun v d hd h => h.mono (fun _ _ => rfl) (fun _ h => h) fun j hj => if_neg fun e => hd (by rw [hj, e])⟩
    refine ⟨b, vs, T, q1, q2, by simpa using q3, fun i d hd => ?_⟩
    rw [List.getElem?_set] at hd
    split at hd
    ·rename_i e; subst e
     split at hd
     ·injection hd with hd; subst hd
      have := q4 off .nil (by rw [List.getElem?_map, hnil]; rfl)
      have hv := (this.flat (d := .nil) rfl).nil_inv
      show _ = (if nilKey k off = nilKey k off then _ else _)
      rw [if_pos rfl, hv]
     ·cases hd
    ·exact q4 i d hd
  ·exact ⟨pl, m, fun _ _ _ h => h⟩
 ·exact ⟨pl, m, fun _ _ _ h => h⟩
theorem zXg (ds : List D) : ∀ (l : List (Nat × (Nat × (TypeId × Ty)))) (σ : St) (pl : Nat → Value), MtB P b0 N σ a w S pl → ∃ pl', MtB P b0 N (nilRows ds l σ) a w S pl' ∧ ∀ v d, (∀ k, d.ref = some k → k < 1000000) → Rd w S pl v d → Rd w S pl' v d
 | [], σ, pl, m => ⟨pl, m, fun _ _ _ h => h⟩
 | (i, off, e, t) :: r, σ, pl, m => by
  unfold nilRows
  split
  ·rename_i k _
   obtain ⟨pl1, m1, h1⟩ := zNi m k off e t
   obtain ⟨pl2, m2, h2⟩ := zXg ds r _ _ m1
   exact ⟨pl2, m2, fun v d hd h => h2 v d hd (h1 v d (fun e => by have := hd _ e; unfold nilKey at this; omega) h)⟩
  ·exact zXg ds r σ pl m
theorem zOi (m : MtB P b0 N σ a w S pl) (k off : Nat) : ∃ S', (∀ b, S b → S' b) ∧ MtB P b0 N (pubField σ k off) a w S' pl := by
 unfold pubField
 split
 ·split
  ·split
   ·rename_i j _ o hob
    cases hf : o.flatB with
    | false => exact ⟨S, fun _ h => h, m⟩
    | true =>
     have hfl : o.flat := by
      cases o with
      | cells cs => exact fun d hd => zL.1 (List.all_eq_true.1 hf d hd)
      | row _ _ _ => trivial
      | mp _ _ _ => trivial
      | val cs => exact fun d hd => zL.1 (List.all_eq_true.1 hf d hd)
     exact ⟨_, fun _ h => .inl h, m.pub hob hfl⟩
   ·exact ⟨S, fun _ h => h, m⟩
  ·exact ⟨S, fun _ h => h, m⟩
 ·exact ⟨S, fun _ h => h, m⟩
theorem zYg (ds : List D) : ∀ (l : List (Nat × Nat)) (σ : St) (S : Nat → Prop), MtB P b0 N σ a w S pl → ∃ S', (∀ b, S b → S' b) ∧ MtB P b0 N (pubFields ds l σ) a w S' pl
 | [], σ, S, m => ⟨S, fun _ h => h, m⟩
 | (i, off) :: r, σ, S, m => by
  unfold pubFields
  split
  ·rename_i k _
   obtain ⟨S1, h1, m1⟩ := zOi m k off
   obtain ⟨S2, h2, m2⟩ := zYg ds r _ _ m1
   exact ⟨S2, fun b h => h2 b (h1 b h), m2⟩
  ·exact zYg ds r σ S m
theorem exH_ok : ∀ {ts : List Ty} {K : List D → Prop}, exH ts K → ∃ xs, K xs
 | [], K, h => ⟨[], h⟩
 | t :: ts, K, h => by
  obtain ⟨x, h⟩ := h
  obtain ⟨xs, h⟩ := exH_ok h
  exact ⟨_, h⟩
theorem zSn (m : MtB P b0 N σ a w S pl) {f : FuncId} {hs : HSig} {ds0 caps : List D} {vs cvs : Array Value} (h : callH P A f hs (dstN o.dst) ds0 caps σ K) (hv : All2 (Rd w S pl) vs.toList ds0) (hcv : All2 (Rp w S) cvs.toList caps)
  (hn : NextOk P b0 N o a K next) : Calls P f (vs ++ cvs) w fun
   | .returned v, w'' => next (a.put o.dst v) w''
   | .panicked chain, w'' => Q (.panic chain) a w''
   | .outgrown, _ => LetsOut Q := by
 unfold callH at h
 cases hb : caps.all noRef && ds0.all lowRef with
 | false => rw [hb] at h; exact h.elim
 | true =>
  rw [hb, cond_true] at h
  simp only [Bool.and_eq_true] at hb
  obtain ⟨hb1, hb2⟩ := hb
  simp only at h
  obtain ⟨S1, hS1, m1⟩ := zYg ds0 hs.datas σ S m
  obtain ⟨pl1, m2, hr1⟩ := zXg (ds0 ++ subPtrs (pubFields ds0 hs.datas σ) ds0) hs.nils _ _ m1
  generalize nilRows (ds0 ++ subPtrs (pubFields ds0 hs.datas σ) ds0) hs.nils (pubFields ds0 hs.datas σ) = σ1 at h m2
  generalize numb σ1.ob (direct ds0) (reach σ1.ob 400 [] ds0) 0 0 = ρ at h
  obtain ⟨xs, h⟩ := exH_ok h
  split at h
  ·rename_i r h' _
   cases hc : hChk σ1 ρ (dstN o.dst) h' with
   | false => rw [hc] at h; exact h.elim
   | true =>
    rw [hc, cond_true] at h
    obtain ⟨hs', hK⟩ := h
    have hc' := hc
    simp only [hChk, Bool.and_eq_true] at hc'
    obtain ⟨⟨⟨⟨⟨n1, n2⟩, n3⟩, n4⟩, _⟩, _⟩ := hc'
    have hpk := zLi m2 n1 n2
    have hv2 : All2 (Rd w S1 (plC ρ pl1)) vs.toList (ds0.map (D.ren ρ)) := by
     refine All2.map_right ?_
     have := hv.len
     refine All2.of this fun i u d hu hd => ?_
     obtain ⟨u', hu', hr⟩ := hv.at hd
     rw [hu] at hu'; injection hu' with hu'; subst hu'
     refine ren_rd (fun k j hj => plC_of n2 (zU hj)) (hr1 u d (fun k hk => ?_) (hr.mono (fun _ _ => rfl) hS1 fun _ _ => rfl))
     have := List.all_eq_true.1 hb2 d (List.mem_of_getElem? hd)
     unfold lowRef at this
     rw [hk] at this
     exact Nat.le_of_ble_eq_true this
    have hcv2 : All2 (Rd w S1 (plC ρ pl1)) cvs.toList caps := (hcv.rmono (fun _ _ => rfl) hS1).rd
    have hall := hv2.append hcv2
    refine (hs' w S1 (vs ++ cvs) (plC ρ pl1) m2.lt (by have := hall.len; simpa using this) (fun i d hd => ?_) hpk (m2.gnow fun b hb => by
     obtain ⟨k, c, o, h1, h2, h3⟩ := hblk_of n2 hb
     exact (m2.priv k o b h2 h3).1)).mono fun e w' hh => ?_
    ·obtain ⟨u, hu, hr⟩ := hall.at hd
     have : (vs ++ cvs).getD i undef = u := by rw [Array.getD_eq_getD_getElem?, ← Array.getElem?_toList, Array.toList_append, hu]; rfl
     rw [this]; exact hr
    ·obtain ⟨v, S', pl', rfl, k1, k2, k3, k4, k5, k6, k7⟩ := hh
     obtain ⟨pl2, m3, hr3⟩ := m2.after hc k2 k3 k4 k5 k6 k7
     exact hn _ _ _ _ _ _ hK m3 (hr3 v r k1)
  ·exact h.elim
end
end Go.Proofs.YtajnbkhgnppckaaGreatDoor
/- A denotation of the program's code on plain data: slices, append, calls are told rightly; all operations. -/
namespace Go.Proofs.YtajnbkhgnppckaaGreatDoor
open Go.RowKit
set_option linter.unusedVariables false
set_option linter.unusedSimpArgs false
section
variable {P : Program} {E : TE} {A : Ann} {b0 : Base} {w w' : World} {S S' : Nat → Prop} {pl pl' : Nat → Value} {N : Nat} {σ : St} {a : Act} {v : Value} {d : D} {o : Oper} {K : D → St → Prop} {next : Act → World → Prop} {Q : Exit → Act → World → Prop}
theorem zTd (m : MtB P b0 N σ a w S pl) {dflt : Int} {x : Option Operand} {n : Int} (h : boundD σ dflt x = some n) : (x = none ∧ n = dflt) ∨ ∃ y, x = some y ∧ a.eval y = .int .i64 n := by
 cases x with
 | none => injection h with h; exact .inl ⟨rfl, h.symm⟩
 | some y =>
  right
  have hy := ev_rd m y
  simp only [boundD] at h
  split at h
  ·rename_i k e
   injection h with h; subst h
   rw [e] at hy
   exact ⟨y, rfl, (hy.flat (d := .int .i64 k) rfl).int_inv.1⟩
  ·cases h
theorem sb_run (n : Int) (y : Nat) (code : BoundsCode) (h0 : 0 ≤ n) (h1 : n ≤ (y : Int)) : (Instr.sliceBound (.int .i64 n) y code).run P w = .ok n.toNat w := by
 simp only [Instr.sliceBound, asIntOf, Sem.run_bind, Sem.run_pure, Result.andThen_ok]
 rw [if_pos ⟨h0, h1⟩]; rfl
theorem zPi {lo hi : Option Operand} {l h : Int} {isS : Bool} {len cap : Nat} (hlo : (lo = none ∧ l = 0) ∨ ∃ y, lo = some y ∧ a.eval y = .int .i64 l) (hhi : (hi = none ∧ h = (len : Int)) ∨ ∃ y, hi = some y ∧ a.eval y = .int .i64 h)
  (h0 : 0 ≤ l) (h1 : l ≤ h) (h2 : h ≤ (len : Int)) (hc : len ≤ cap) : (Instr.sliceBounds isS len cap (lo.map a.eval) (hi.map a.eval) none).run P w = .ok (l.toNat, h.toNat, cap) w := by
 unfold Instr.sliceBounds
 rcases hhi with ⟨rfl, rfl⟩ | ⟨y, rfl, e⟩ <;> rcases hlo with ⟨rfl, rfl⟩ | ⟨z, rfl, e'⟩
 ·simp only [Option.map_none, Sem.run_bind, Sem.run_pure, Result.andThen_ok]; try rfl
 ·simp only [Option.map_none, Option.map_some, e', Sem.run_bind, Sem.run_pure, Result.andThen_ok, sb_run l len _ h0 (by omega)]; try rfl
 ·simp only [Option.map_none, Option.map_some, e, Sem.run_bind, Sem.run_pure, Result.andThen_ok, sb_run h cap _ (by omega) (by omega)]; try rfl
 ·simp only [Option.map_some, e, e', Sem.run_bind, Sem.run_pure, Result.andThen_ok, sb_run h cap _ (by omega) (by omega), sb_run l h.toNat _ h0 (by omega)]
theorem zQi {l h : Int} {len : Nat} (hh : inSl l h len = true) : 0 ≤ l ∧ l ≤ h ∧ h ≤ (len : Int) := by simpa [inSl, and_assoc] using hh
theorem sub_rd {t : Ty} {xs : List t.den} {A : Option Addr} {c l h : Nat} (hr : RdV w S (.slice A xs.length c) xs) (h1 : l ≤ h) (h2 : h ≤ xs.length) : RdV w S (sliced A l h c t.size) ((xs.take h).drop l) := by
 obtain ⟨cs, e, A', c', rfl, k0, k1, k2, k3, k4⟩ := hr
 simp only [vOf, Value.slice.injEq] at e
 obtain ⟨rfl, _, rfl⟩ := e
 have hlen : ((xs.take h).drop l).length = h - l := by rw [List.length_drop, List.length_take]; omega
 refine ⟨[_], rfl, (if c = l then A else A.map (·.add (l * t.size))), c - l, by rw [hlen], ?_, by omega, by omega, fun hn => ?_, fun hn => ?_⟩
 ·rw [hlen]
  exact Nat.le_trans (Nat.mul_le_mul_right _ (by omega)) k0
 ·split at hn
  ·have := k3 hn; omega
  ·cases A with
   | none => have := k3 rfl; omega
   | some ad => cases hn
 ·obtain ⟨b, o', rfl, hb, hc⟩ := k4 (by omega)
  rw [if_neg (by omega)]
  refine ⟨b, o' + l * t.size, ?_, hb, fun i x hx => ?_⟩
  ·simp only [Option.map_some, Addr.add]
   split
   ·rename_i e; rw [e]; rfl
   ·rfl
  ·rw [List.getElem?_drop, List.getElem?_take] at hx
   split at hx
   ·obtain ⟨cs, hcs, hcell⟩ := hc (l + i) x hx
    refine ⟨cs, hcs, fun j u hu => ?_⟩
    have := hcell j u hu
    rw [← this, ← Ty.size_eq]
    congr 2
    rw [Nat.add_mul]; omega
   ·cases hx
theorem zTn (F : Facts P E) (m : MtB P b0 N σ a w S pl) {T : TypeId} {x : Operand} {lo hi : Option Operand} (ho : o.op = .slice T x lo hi none) (h : sliceD E A T (σ.ev x) σ lo hi K) (hn : NextOk P b0 N o a K next) : o.wp P a w next Q := by
 have hx := ev_rd m x
 unfold sliceD at h
 split at h
 ·rename_i s e
  rw [e] at hx
  obtain ⟨hx, hsz⟩ := (hx.flat (d := .str s) rfl).str_inv
  cases hm : memN T E.strs with
  | false => rw [hm] at h; exact h.elim
  | true =>
   rw [hm, cond_true] at h
   split at h
   ·rename_i l hh e1 e2
    obtain ⟨hin, h⟩ := h
    obtain ⟨h0, h1, h2⟩ := zQi hin
    have hb := zPi (P := P) (w := w) (isS := false) (cap := s.size) (zTd m e1) (zTd m e2) h0 h1 h2 (Nat.le_refl _)
    have hrun : (execOp a.eval o).run P w = .ok (.value (.string (s.extract l.toNat hh.toNat))) w := by
     unfold execOp; rw [ho]
     simp only [Instr.sliceAt, Instr.slice, Sem.run_bind, run_underlying (F.strs T hm), Result.andThen_ok, hx, Option.map_none, Option.isSome_none, Bool.false_eq_true, if_false, hb, Sem.run_pure]
    refine wp_val hrun (hn _ _ _ _ _ _ h m (Rp.rd (.str _ ?_)))
    rw [ByteArray.size_extract]; omega
   ·exact h.elim
 ·obtain ⟨σ', ds', S', hK, hS, m', hv⟩ := zM h m
  have hr := hv [a.eval x] (.cons hx .nil)
  split at hK
  ·rename_i t xs
   split at hK
   ·rename_i e t' l hh hl e1 e2
    cases hz : Nat.beq t'.size t.size with
    | false => rw [hz] at hK; exact hK.elim
    | true =>
     rw [hz, cond_true] at hK
     obtain ⟨hin, hK⟩ := hK
     obtain ⟨h0, h1, h2⟩ := zQi hin
     obtain _ | ⟨hr1, _⟩ := hr
     have hrd := hr1.sl_inv
     obtain ⟨A', c, hv', hok⟩ := zi hrd
     have hb := zPi (P := P) (w := w) (isS := true) (cap := c) (zTd m' e1) (zTd m' e2) h0 h1 h2 hok.cap
     have hrun : (execOp a.eval o).run P w = .ok (.value (sliced A' l.toNat hh.toNat c t.size)) w := by
      unfold execOp; rw [ho]
      simp only [Instr.sliceAt, Instr.slice, Sem.run_bind, run_underlying (F.sl T e t' hl).und, Result.andThen_ok, hv', Option.map_none, hb, zSg F hl, Sem.run_pure]
      rw [zb.1 hz]; rfl
     rw [hv'] at hrd
     exact wp_val hrun (hn _ _ _ _ _ _ hK m' (Rp.rd (.sl t _ _ (sub_rd hrd (by omega) (by omega)))))
   ·exact hK.elim
  ·exact hK.elim
theorem len_wp (F : Facts P E) (m : MtB P b0 N σ a w S pl) {c : Call} (ho : o.op = .call c) (hc : c.callee = .builtin .len) {x : Operand} {T : TypeId} (ha : c.args.toList = [x]) (ht : c.argTypes.toList = [T]) (h : lenD E T (σ.ev x) σ fun d => K d σ) (hn : NextOk P b0 N o a K next) : o.wp P a w next Q := by
 have hx := ev_rd m x
 have ha' : c.args = #[x] := by apply Array.ext'; simpa using ha
 have ht' : c.argTypes = #[T] := by apply Array.ext'; simpa using ht
 have run : ∀ u, (Builtin.len_ #[T] o.type #[a.eval x]).run P w = .ok u w → (execOp a.eval o).run P w = .ok (.value u) w := fun u h => by
  unfold execOp; rw [ho]
  simp only [resolve, hc, ha', ht', invoke, builtin, List.map_toArray, List.map_cons, List.map_nil, Sem.run_bind, Sem.run_pure, Result.andThen_ok, h]
 have ii : ∀ n : Nat, n ≤ 9223372036854775807 → Rd w S pl (.int .i64 (n : Int)) (.int .i64 (n : Int)) := fun n hn => Rp.rd (.int _ _ (by unfold inK inI64; omega))
 have srun : ∀ e A n c, P.underlying T = some (.slice e) → a.eval x = .slice A n c → (Builtin.len_ #[T] o.type #[a.eval x]).run P w = .ok (.int .i64 (n : Int)) w := fun e A n c hu hv => by
  simp [Builtin.len_, run_underlying hu, hv, goInt]
 have mrun : ∀ kT eT b ents clock {n : Nat}, P.underlying T = some (.map kT eT) → a.eval x = .map (some b) → w.heap[b]? = some (.map ents clock) → ents.toList.length = n → (Builtin.len_ #[T] o.type #[a.eval x]).run P w = .ok (.int .i64 (n : Int)) w := fun kT eT b ents clock n hu hv hb hl => by
  have hget : (getObj b).run P w = .ok (.map ents clock) w := by simp [getObj, Sem.run, hb]
  subst hl
  simp [Builtin.len_, run_underlying hu, hv, goInt, hget]
 unfold lenD at h
 split at h
 ·rename_i s e
  rw [e] at hx
  obtain ⟨hx, hsz⟩ := (hx.flat (d := .str s) rfl).str_inv
  cases hm : memN T E.strs with
  | false => rw [hm] at h; exact h.elim
  | true =>
   rw [hm, cond_true] at h
   refine wp_val (run (.int .i64 (s.size : Int)) ?_) (hn _ _ _ _ _ _ h m (ii _ (by omega)))
   simp [Builtin.len_, run_underlying (F.strs T hm), hx, goInt]
 ·rename_i e
  rw [e] at hx
  have hx := (hx.flat (d := .nil) rfl).nil_inv
  split at h
  ·rename_i y hl
   obtain ⟨te, t⟩ := y
   exact wp_val (run _ (srun _ _ _ _ (F.sl T te t hl).und hx)) (hn _ _ _ _ _ _ h m (ii 0 (by omega)))
  ·exact h.elim
 ·rename_i kt vt es e
  rw [e] at hx
  obtain ⟨b, hv, _, h0, ents, clock, hb, hes⟩ := (hx.flat (d := .mp kt vt es) rfl).mp_inv
  split at h
  ·rename_i y hl
   obtain ⟨k0, v0⟩ := y
   obtain ⟨kT, eT, i, z, dz, hu, _⟩ := F.mps T _ _ hl
   exact wp_val (run _ (mrun _ _ _ _ _ hu hv hb hes.len)) (hn _ _ _ _ _ _ h m (ii _ (by omega)))
  ·exact h.elim
 ·rename_i t xs e
  rw [e] at hx
  obtain ⟨A', c', hv, hok⟩ := zi (hx.flat (d := .sl t xs) rfl).sl_inv
  split at h
  ·rename_i y hl
   obtain ⟨te, t'⟩ := y
   exact wp_val (run _ (srun _ _ _ _ (F.sl T te t' hl).und hv)) (hn _ _ _ _ _ _ h m (ii _ (Nat.le_trans hok.cap hok.max)))
  ·exact h.elim
 ·rename_i k e
  rw [e] at hx
  have hx : a.eval x = pl k := hx
  split at h
  ·rename_i e' t xs hob
   split at h
   ·rename_i y hl
    obtain ⟨te, t'⟩ := y
    obtain ⟨_, css, _, q2, _⟩ := m.hp k _ hob
    rcases q2.2 with ⟨ep, e0⟩ | ⟨g, cap, cur, ep, _, _, hcap, hmax, _⟩
    ·rw [e0] at h
     exact wp_val (run _ (srun _ _ _ _ (F.sl T te t' hl).und (hx.trans ep))) (hn _ _ _ _ _ _ h m (ii 0 (by omega)))
    ·exact wp_val (run _ (srun _ _ _ _ (F.sl T te t' hl).und (hx.trans ep))) (hn _ _ _ _ _ _ h m (ii _ (by unfold maxLen at hmax; omega)))
   ·exact h.elim
  ·rename_i kt vt es hob
   split at h
   ·rename_i y hl
    obtain ⟨k0, v0⟩ := y
    obtain ⟨kT, eT, i, z, dz, hu, _⟩ := F.mps T _ _ hl
    obtain ⟨b, hv, h0, ents, clock, hb, hes⟩ := m.hp k _ hob
    exact wp_val (run _ (mrun _ _ _ _ _ hu (hx.trans hv) hb hes.len)) (hn _ _ _ _ _ _ h m (ii _ (by omega)))
   ·exact h.elim
  ·exact h.elim
 ·exact h.elim
def Src (w : World) (S : Nat → Prop) (t : Ty) (u : Value) (ys : List t.den) : Prop :=
 ∃ A c, u = .slice A ys.length c ∧ ∃ ccs : List (List Value), ccs.length = ys.length ∧ (∀ cs ∈ ccs, cs.length = t.size) ∧ (∀ (i : Nat) (x : t.den) (cs : List Value), ys[i]? = some x → ccs[i]? = some cs → Rep.rd w S cs x) ∧
  (0 < ys.length → ∃ b o, A = some ⟨b, o, none⟩ ∧ ∀ j u, ccs.flatten[j]? = some u → w.cell? ⟨b, o + j, none⟩ = some u)
theorem src_nil (t : Ty) : Src w S t (.slice none 0 0) ([] : List t.den) := ⟨none, 0, rfl, [], rfl, by simp, by simp, by simp⟩
theorem src_sl {t : Ty} {u : Value} {ys : List t.den} (hy : RdV w S u ys) : Src w S t u ys := by
 obtain ⟨ucs, rfl, A, c, rfl, k0, k1, k2, k3, k4⟩ := hy
 refine ⟨A, c, rfl, ?_⟩
 by_cases hn : 0 < ys.length
 ·obtain ⟨b, o', hA, hb', hc⟩ := k4 hn
  have hc' : ∀ i : Fin ys.length, ∃ cs, Rep.rd w S cs ys[i] ∧ ∀ j u, cs[j]? = some u → w.cell? ⟨b, o' + i * Rep.size t.den + j, none⟩ = some u := fun i => hc i _ (List.getElem?_eq_getElem i.2)
  let f : Fin ys.length → List Value := fun i => (hc' i).choose
  have hf : ∀ i, Rep.rd w S (f i) ys[i] ∧ ∀ j u, (f i)[j]? = some u → w.cell? ⟨b, o' + i * Rep.size t.den + j, none⟩ = some u := fun i => (hc' i).choose_spec
  have hl : ∀ cs ∈ List.ofFn f, cs.length = t.size := fun cs hcs => by
   obtain ⟨i, rfl⟩ := List.mem_ofFn.1 hcs
   rw [Ty.size_eq]; exact Rep.len (hf i).1
  refine ⟨List.ofFn f, by simp, hl, fun i x cs hx hcs => ?_, fun _ => ⟨b, o', hA, fun j u hu => ?_⟩⟩
  ·have hi : i < ys.length := (List.getElem?_eq_some_iff.1 hx).1
   rw [List.getElem?_eq_getElem hi] at hx
   have : cs = f ⟨i, hi⟩ := by simpa [List.getElem?_ofFn, hi] using hcs.symm
   subst this
   injection hx with hx
   rw [← hx]; exact (hf ⟨i, hi⟩).1
  ·have hpos : 0 < t.size := by rw [Ty.size_eq]; exact Rep.pos
   rw [zKc hpos _ hl] at hu
   have hdm : j / t.size * t.size + j % t.size = j := by rw [Nat.mul_comm]; exact Nat.div_add_mod _ _
   cases hq : (List.ofFn f)[j / t.size]? with
   | none => rw [hq] at hu; cases hu
   | some cs =>
    rw [hq] at hu
    simp only [Option.bind_some] at hu
    have hi : j / t.size < ys.length := by have := (List.getElem?_eq_some_iff.1 hq).1; simpa using this
    have : cs = f ⟨j / t.size, hi⟩ := by simpa [List.getElem?_ofFn, hi] using hq.symm
    subst this
    have := (hf ⟨j / t.size, hi⟩).2 _ u hu
    rw [← Ty.size_eq, Nat.add_assoc] at this
    simp only [hdm] at this
    exact this
 ·have : ys = [] := List.eq_nil_of_length_eq_zero (by omega)
  subst this
  exact ⟨[], rfl, by simp, by simp, fun h => absurd h (by simp)⟩
theorem src_row {e : TypeId} {t : Ty} {p : Value} {ys : List t.den} (h : ObOk w S pl p (.row e t ys)) : Src w S t p ys := by
 obtain ⟨q0, css, q1, q2, q3, q4⟩ := h
 rcases q2.2 with ⟨ep, e0⟩ | ⟨g, cap, cur, ep, _, hg, hcap, hmax, hcur, htake⟩
 ·have : ys = [] := List.eq_nil_of_length_eq_zero e0
  subst this
  rw [ep]; exact src_nil t
 ·refine ⟨some ⟨g, 0, none⟩, cap, ep, css, q1, q3, q4, fun _ => ⟨g, 0, rfl, fun j u hu => ?_⟩⟩
  have := q2.cells (g := g) (by rw [ep]; rfl) j u hu
  rw [← this]
  unfold Addr.add
  split
  ·rename_i e; simp [e]
  ·simp
theorem zZg (F : Facts P E) {T e : TypeId} {t' t : Ty} (hl : look T E.sl = some (e, t')) (ht : t'.size = t.size) (hby : t'.bytes = t.bytes) {p u : Value} {xs ys : List t.den} (hx : ObOk w S pl p (.row e t xs)) (hy : Src w S t u ys) (hb : room t (xs.length + ys.length) = true)
  (hSb : ∀ b, oblk p = some b → ¬ S b) (hlt : ∀ b, S b → b < w.heap.size) (ty : TypeId) :
  ∃ p' w', (Builtin.append_ #[T, T] ty #[p, u]).run P w = .ok p' w' ∧ w.grownBy w' (oblk p) ∧ (∀ b, oblk p' = some b → oblk p = some b ∨ (w.heap.size ≤ b ∧ b < w'.heap.size)) ∧ ObOk w' S pl' p' (.row e t (xs ++ ys)) := by
 obtain ⟨hu, i, z, hi, hz, hsz, hbt, hzb⟩ := F.sl T e t' hl
 have hzs : z.cells.size = t.size := by have := (zBs_rd (w := w) (S := S) hzb).len; rw [zab, ht] at this; simpa using this
 obtain ⟨A, c, rfl, ccs, y1, y2, y3, y4⟩ := hy
 obtain ⟨q0, css, q1, q2, q3, q4⟩ := hx
 have hroom : (xs.length + ys.length) * t.bytes ≤ 140737488355328 := of_decide_eq_true hb
 have hbp : 0 < t.bytes := t.bytes_pos
 have hle : xs.length + ys.length ≤ (xs.length + ys.length) * t.bytes := Nat.le_mul_of_pos_right _ hbp
 have hpos : 0 < t.size := by rw [Ty.size_eq]; exact Rep.pos
 have hob : oblk p = p.ownBlock := by
  rcases q2.2 with ⟨ep, _⟩ | ⟨g, cap, cur, ep, _⟩ <;> rw [ep] <;> rfl
 have hone : ∀ u ∈ ccs.flatten, u.oneCell' = true := fun u hu => by
  obtain ⟨cs, hcs, hu⟩ := List.mem_flatten.1 hu
  obtain ⟨j, hj, rfl⟩ := List.getElem_of_mem hcs
  exact Rep.one (y3 j (ys[j]'(by omega)) _ (List.getElem?_eq_getElem (by omega)) (List.getElem?_eq_getElem hj)) u hu
 have main : ∃ p' w', (Builtin.append_ #[T, T] ty #[p, .slice A ys.length c]).run P w = .ok p' w' ∧ w'.ownsRow 0 e t.size p' (xs.length + ys.length) (css.flatten ++ ccs.flatten) ∧ w.grownBy w' p.ownBlock ∧ (p'.ownBlock = p.ownBlock ∨ p'.ownBlock = some w.heap.size) := by
  by_cases hn : 0 < ys.length
  ·obtain ⟨b, o', hA, hc⟩ := y4 hn
   subst hA
   obtain ⟨v', w', r1, r2, r3, _, r4⟩ := run_append_own_at (P := P) w 0 T ty e i z t.size t.bytes hu hi hz (hsz.trans ht) (hbt.trans hby) hzs hpos p xs.length css.flatten q2 ⟨b, o', none⟩ ys.length c ccs.flatten (by rw [zKb _ y2, y1])
    (fun j u hu => by
     have := hc j u hu
     unfold Addr.add
     split
     ·rename_i e; subst e; simpa using this
     ·exact this)
    hone (by unfold maxLen; omega) hroom (Nat.zero_le _)
   exact ⟨v', w', r1, r2, r3, r4⟩
  ·have e0 : ys = [] := List.eq_nil_of_length_eq_zero (by omega)
   subst e0
   have e1 : ccs = [] := List.eq_nil_of_length_eq_zero (by simpa using y1)
   subst e1
   rcases A with _ | ad
   ·refine ⟨p, w, ?_, by simpa using q2, World.grownBy.refl w _, .inl rfl⟩
    rcases q2.2 with ⟨rfl, e0⟩ | ⟨g, cap, cur, rfl, _, _, hnc, _⟩
    ·simp [Builtin.append_, run_underlying hu, sizeOf, typeInfo, hi, Builtin.lenOf, Builtin.firstCells]
    ·simp [Builtin.append_, run_underlying hu, sizeOf, typeInfo, hi, Builtin.lenOf, Builtin.firstCells, hnc, storeCells]
   ·obtain ⟨v', w', r1, r2, r3, _, r4⟩ := run_append_own_at (P := P) w 0 T ty e i z t.size t.bytes hu hi hz (hsz.trans ht) (hbt.trans hby) hzs hpos p xs.length css.flatten q2 ad 0 c [] (by simp) (by simp) (by simp) (by unfold maxLen; simp at hle hroom; omega) (by simpa using hroom) (Nat.zero_le _)
    exact ⟨v', w', r1, by simpa using r2, r3, r4⟩
 obtain ⟨p', w', r1, r2, r3, r4⟩ := main
 have hkeep : ∀ b, S b → w'.heap[b]? = w.heap[b]? := fun b hb => r3.block b (hlt b hb) fun e => hSb b (by rw [hob]; exact e.symm) hb
 refine ⟨p', w', r1, by rw [hob]; exact r3, fun b hb => ?_, by rw [List.length_append]; exact hroom, css ++ ccs, by simp [q1, y1], by simpa using r2, fun cs hcs => ?_, fun j x cs hx hcs => ?_⟩
 ·have hpb : p'.ownBlock = some b := by
   rcases r2.2 with ⟨ep, _⟩ | ⟨g, cap, cur, ep, _⟩
   ·rw [ep] at hb; cases hb
   ·rw [ep] at hb ⊢; exact hb
  rcases r4 with r4 | r4
  ·left; rw [hob, ← r4]; exact hpb
  ·right
   rw [hpb] at r4; injection r4 with r4
   have := r2.lt b hpb
   omega
 ·rcases List.mem_append.1 hcs with h | h
  ·exact q3 cs h
  ·exact y2 cs h
 ·have key : Rep.rd w S cs x := by
   by_cases hj : j < xs.length
   ·rw [List.getElem?_append_left hj] at hx
    rw [List.getElem?_append_left (by omega)] at hcs
    exact q4 j x cs hx hcs
   ·rw [List.getElem?_append_right (by omega)] at hx
    rw [List.getElem?_append_right (by omega), q1] at hcs
    exact y3 _ x cs hx hcs
  exact Rep.mono key hkeep fun _ h => h
theorem z0g (m : MtB P b0 N σ a w S pl) {k : Nat} {t : Ty} {ys : List t.den} (h : Rd w S pl v d) (hs : srcOf σ k t d = some ys) : Src w S t v ys := by
 unfold srcOf at hs
 split at hs
 ·injection hs with hs; subst hs
  rw [(h.flat (d := .nil) rfl).nil_inv]; exact src_nil t
 ·rename_i t' zs
  split at hs
  ·rename_i e; subst e; injection hs with hs; subst hs
   exact src_sl (h.flat (d := .sl t' zs) rfl).sl_inv
  ·cases hs
 ·rename_i j
  cases hb : Nat.beq j k with
  | true => rw [hb] at hs; cases hs
  | false =>
   rw [hb, cond_false] at hs
   split at hs
   ·rename_i e' t' zs hob
    split at hs
    ·rename_i e; subst e; injection hs with hs; subst hs
     have h : v = pl j := h
     rw [h]; exact src_row (m.hp j _ hob)
    ·cases hs
   ·cases hs
 ·cases hs
theorem zUn (F : Facts P E) (m : MtB P b0 N σ a w S pl) {c : Call} (ho : o.op = .call c) (hc : c.callee = .builtin .append) {x y : Operand} {T T' : TypeId} (ha : c.args.toList = [x, y]) (ht : c.argTypes.toList = [T, T']) (h : appendD E A o T T' (σ.ev x) y σ K) (hn : NextOk P b0 N o a K next) : o.wp P a w next Q := by
 have hx := ev_rd m x
 have hy := ev_rd m y
 have ha' : c.args = #[x, y] := by apply Array.ext'; simpa using ha
 have ht' : c.argTypes = #[T, T'] := by apply Array.ext'; simpa using ht
 unfold appendD at h
 split at h
 ·rename_i e t' hl
  cases hT : Nat.beq T T' with
  | false => rw [hT] at h; exact h.elim
  | true =>
   rw [hT, cond_true] at h
   have hT := zb.1 hT
   subst hT
   split at h
   ·rename_i k ex
    rw [ex] at hx
    have hx : a.eval x = pl k := hx
    split at h
    ·rename_i e' t xs hob
     cases he : Nat.beq e e' && Nat.beq t'.size t.size && Nat.beq t'.bytes t.bytes && !stabK k with
     | false => rw [he] at h; exact h.elim
     | true =>
      rw [he, cond_true] at h
      simp only [Bool.and_eq_true] at he
      have hee := zb.1 he.1.1.1
      subst hee
      split at h
      ·rename_i ys hs
       obtain ⟨hroom, h⟩ := h
       obtain ⟨p', w', r1, r2, r3, r4⟩ := zZg (P := P) (pl' := fun j => pl j) F hl (zb.1 he.1.1.2) (zb.1 he.1.2) (m.hp k _ hob) (z0g m hy hs) hroom (fun b hb => (m.priv k _ b hob hb).2.2) m.lt o.type
       have hrun : (execOp a.eval o).run P w = .ok (.value p') w' := by
        unfold execOp; rw [ho]
        simp only [resolve, hc, ha', ht', invoke, builtin, List.map_toArray, List.map_cons, List.map_nil, Sem.run_bind, Sem.run_pure, Result.andThen_ok, hx, r1]
       exact wp_val hrun (hn _ _ _ _ _ _ h (m.grow (by simpa using he.2) hob p' r2 r3 r4) (if_pos rfl).symm)
      ·exact h.elim
    ·exact h.elim
   ·rename_i k ex
    rw [ex] at hx
    have hx : a.eval x = pl k := (show a.eval x = pl k ∧ a.eval x ≠ .slice none 0 0 from hx).1
    split at h
    ·rename_i e' t xs hob
     cases he : Nat.beq e e' && Nat.beq t'.size t.size && Nat.beq t'.bytes t.bytes && !stabK k with
     | false => rw [he] at h; exact h.elim
     | true =>
      rw [he, cond_true] at h
      simp only [Bool.and_eq_true] at he
      have hee := zb.1 he.1.1.1
      subst hee
      split at h
      ·rename_i ys hs
       cases hys : Nat.blt 0 ys.length with
       | false => rw [hys] at h; exact h.elim
       | true =>
        rw [hys, cond_true] at h
        have hys : 0 < ys.length := by simpa using hys
        obtain ⟨hroom, h⟩ := h
        obtain ⟨p', w', r1, r2, r3, r4⟩ := zZg (P := P) (pl' := fun j => pl j) F hl (zb.1 he.1.1.2) (zb.1 he.1.2) (m.hp k _ hob) (z0g m hy hs) hroom (fun b hb => (m.priv k _ b hob hb).2.2) m.lt o.type
        have hrun : (execOp a.eval o).run P w = .ok (.value p') w' := by
         unfold execOp; rw [ho]
         simp only [resolve, hc, ha', ht', invoke, builtin, List.map_toArray, List.map_cons, List.map_nil, Sem.run_bind, Sem.run_pure, Result.andThen_ok, hx, r1]
        have hnn : p' ≠ .slice none 0 0 := fun e => by
         obtain ⟨_, _, _, q2, _⟩ := r4
         rcases q2.2 with ⟨_, e0⟩ | ⟨g, cap, cur, ep, _⟩
         ·rw [List.length_append] at e0; omega
         ·rw [e] at ep; cases ep
        exact wp_val hrun (hn _ _ _ _ _ _ h (m.grow (by simpa using he.2) hob p' r2 r3 r4) ⟨(if_pos rfl).symm, hnn⟩)
      ·exact h.elim
    ·exact h.elim
   ·rename_i ex
    rw [ex] at hx
    have hxv := (hx.flat (d := .nil) rfl).nil_inv
    split at h
    ·rename_i k hk
     split at h
     ·rename_i ys hs
      obtain ⟨hroom, h⟩ := h
      have m1 := m.mk' (w' := w) k (zrb hk) (.row e t' []) (.slice none 0 0) (Below.refl _ _) (fun b hb => by cases hb) fun pl' _ => ⟨by simp [lim], [], rfl, by simpa using World.ownsRow_nil w 0 e t'.size, by simp, by simp⟩
      have hob : look k (σ.mk' k (.row e t' [])).hp = some (.row e t' []) := by simp only [St.mk', zd, if_pos]
      obtain ⟨p', w', r1, r2, r3, r4⟩ := zZg (P := P) (pl' := fun j => (fun j => if j = k then Value.slice none 0 0 else pl j) j) F hl rfl rfl (m1.hp k _ hob) (z0g m1 (ev_rd m1 y) hs) (by simpa using hroom) (fun b hb => (m1.priv k _ b hob hb).2.2) m1.lt o.type
      rw [if_pos rfl] at r1
      have hrun : (execOp a.eval o).run P w = .ok (.value p') w' := by
       unfold execOp; rw [ho]
       simp only [resolve, hc, ha', ht', invoke, builtin, List.map_toArray, List.map_cons, List.map_nil, Sem.run_bind, Sem.run_pure, Result.andThen_ok, hxv, r1]
      exact wp_val hrun (hn _ _ _ _ _ _ h (m1.grow (zrb hk) hob p' r2 r3 r4) (if_pos rfl).symm)
     ·exact h.elim
    ·exact h.elim
   ·exact h.elim
 ·exact h.elim
theorem evs_rd (m : MtB P b0 N σ a w S pl) : ∀ (xs : List Operand), All2 (Rd w S pl) (xs.map a.eval) (xs.map σ.ev)
 | [] => .nil
 | x :: xs => .cons (ev_rd m x) (evs_rd m xs)
theorem zVn (m : MtB P b0 N σ a w S pl) {f : FuncId} {first caps : Array Operand} (ho : o.op = .makeFunc (.func f) first caps) (hf : first.toList = []) (h : withPubs A.q σ (caps.toList.map σ.ev) fun cs σ => K (.clo f none cs) σ) (hn : NextOk P b0 N o a K next) : o.wp P a w next Q := by
 obtain ⟨σ', ds', S', hK, hS, m', hv⟩ := zM h m
 have hr := hv _ (evs_rd m caps.toList)
 have hf' : first = #[] := by apply Array.ext'; simpa using hf
 have hrun : (execOp a.eval o).run P w = .ok (.value (.func (.func f) #[] (caps.map a.eval))) w := by
  unfold execOp; rw [ho]
  simp only [Instr.makeFunc, hf', Sem.run_bind, Sem.run_pure, Result.andThen_ok, Array.map_empty]
 have hr' : All2 (Rp w S') (caps.map a.eval).toList ds' := by simpa using hr
 exact wp_val hrun (hn _ _ _ _ _ _ hK m' (Rp.rd (.clo f none ds' _ (by simpa using hr'.len) fun i d hd => rd_of hr' i d hd)))
theorem zUd (m : MtB P b0 N σ a w S pl) : ∀ (xs : List Operand) (ts : List TypeId), All2 (Rd w S pl) (xs.map a.eval) (zipFix E σ xs ts)
 | [], _ => .nil
 | x :: xs, [] => .cons (ev_rd m x) (zUd m xs [])
 | x :: xs, T :: ts => .cons (zLg T (ev_rd m x)) (zUd m xs ts)
theorem zRi (m : MtB P b0 N σ a w S pl) : ∀ xs : List Operand, All2 (Rd w S pl) (xs.map a.eval) (xs.map σ.ev)
 | [] => .nil
 | x :: xs => .cons (ev_rd m x) (zRi m xs)
theorem zipH_rd (m : MtB P b0 N σ a w S pl) (raw : Bool) (xs : List Operand) (ts : List TypeId) : All2 (Rd w S pl) (xs.map a.eval) (zipH raw E σ xs ts) := by
 cases raw
 ·exact zUd m xs ts
 ·exact zRi m xs
def Priv (σ : St) (pl : Nat → Value) (b : Nat) : Prop := ∃ k o, look k σ.hp = some o ∧ oblk (pl k) = some b
theorem view_rd (m : MtB P b0 N σ a w S pl) (h : Rd w S pl v d) : Rd w (fun b => S b ∨ Priv σ pl b) pl v (viewD σ d) := by
 unfold viewD
 split
 ·rename_i k
  split
  ·rename_i e t xs hob
   have h : v = pl k := h
   rw [h]
   exact Rp.rd (.sl t xs _ (RdV.mono (row_rdV (m.hp k _ hob)) (fun _ _ => rfl) fun b hb => by
    rcases hb with hb | hb
    ·exact .inl hb
    ·exact .inr ⟨k, _, hob, hb⟩))
  ·exact h
 ·exact h.mono (fun _ _ => rfl) (fun _ h => .inl h) fun _ _ => rfl
theorem z6b {t : Ty} {x : t.den} (ht : t.scalar = true) (h : Rp w S v (toD t x)) : Rp w S' v (toD t x) := by
 cases t <;> simp only [Ty.scalar, Bool.false_eq_true] at ht
 ·obtain ⟨rfl, g⟩ := h.int_inv; exact .int _ _ g
 ·rw [h.bool_inv]; exact .bool _
 ·obtain ⟨rfl, g⟩ := h.str_inv; exact .str _ g
theorem zSi {f : FuncId} {args : List D} {r : D} (hs : Sat P f args r) (hg : GOk P w fun _ => False) (hS : ∀ b, S b → b < w.heap.size) {vs : Array Value} (hv : All2 (Rp w S) vs.toList args)
  (hk : ∀ v w', Rp w' (fun b => S b ∨ (w.heap.size ≤ b ∧ b < w'.heap.size)) v r → Below w.heap.size w w' → next (a.put o.dst v) w') :
  Calls P f vs w fun
   | .returned v, w'' => next (a.put o.dst v) w''
   | .panicked chain, w'' => Q (.panic chain) a w''
   | .outgrown, _ => LetsOut Q :=
 (hs w S vs hS (by simpa using hv.len) (fun i d hd => rd_of hv i d hd) hg).mono fun e w' ⟨v, he, hr, hb⟩ => by subst he; exact hk v w' hr hb
theorem retP_ok {f : FuncId} {args : List D} {rs : List Ty} {K : D → Prop} (h : retP P f args rs K) : ∃ r, Sat P f args r ∧ K r ∧ (rs.all Ty.scalar = true → ∀ w S S' v, Rp w S v r → Rp w S' v r) := by
 unfold retP at h
 split at h
 ·exact ⟨_, h.1, h.2, fun _ w S S' v hr => by
   obtain ⟨vs, rfl, hl, _⟩ := hr.tup_inv
   exact .tup vs [] hl fun i d hd => by simp at hd⟩
 ·rename_i t
  obtain ⟨x, h1, h2⟩ := h
  exact ⟨_, h1, h2, fun hs w S S' v hr => z6b (by simpa using hs) hr⟩
 ·rename_i t u
  obtain ⟨x, y, h1, h2⟩ := h
  refine ⟨_, h1, h2, fun hs w S S' v hr => ?_⟩
  simp only [List.all_cons, List.all_nil, Bool.and_true, Bool.and_eq_true] at hs
  obtain ⟨vs, rfl, hl, hr⟩ := hr.tup_inv
  refine .tup vs _ hl fun i d hd => ?_
  have := hr i d hd
  match i, hd with
  | 0, hd => simp at hd; subst hd; exact z6b hs.1 this
  | 1, hd => simp at hd; subst hd; exact z6b hs.2 this
  | i + 2, hd => simp at hd
 ·rename_i t u s
  obtain ⟨x, y, z, h1, h2⟩ := h
  refine ⟨_, h1, h2, fun hs w S S' v hr => ?_⟩
  simp only [List.all_cons, List.all_nil, Bool.and_true, Bool.and_eq_true] at hs
  obtain ⟨vs, rfl, hl, hr⟩ := hr.tup_inv
  refine .tup vs _ hl fun i d hd => ?_
  have := hr i d hd
  match i, hd with
  | 0, hd => simp at hd; subst hd; exact z6b hs.1 this
  | 1, hd => simp at hd; subst hd; exact z6b hs.2.1 this
  | 2, hd => simp at hd; subst hd; exact z6b hs.2.2 this
  | i + 3, hd => simp at hd
 ·exact h.elim
theorem MtB.called (m : MtB P b0 N σ a w S pl) (hb : Below w.heap.size w w') : MtB P b0 N σ a w' (fun b => S b ∨ (w.heap.size ≤ b ∧ b < w'.heap.size)) pl :=
 (m.later hb).more (fun _ h => .inl h)
  (fun b h => by
   rcases h with h | h
   ·exact Nat.lt_of_lt_of_le (m.lt b h) hb.size
   ·exact h.2)
  (fun b h => by
   rcases h with h | h
   ·exact m.src b h
   ·exact .inr (.inr (Nat.le_trans m.below.size h.1)))
  (fun k o b h h' hs => by
   have := m.priv k o b h h'
   rcases hs with hs | hs
   ·exact this.2.2 hs
   ·omega)
theorem z1g {f : FuncId} {rs0 : Option (List Ty)} {X : Prop} : entP P f rs0 X ↔ (rs0.isSome = true → Ent P f) ∧ X := by
 cases rs0 <;> simp [entP]
theorem call_wp (F : Facts P E) (m : MtB P b0 N σ a w S pl) {c : Call} {f : Operand} (ho : o.op = .call c) (hc : c.callee = .value f) (h : callD P E A o (σ.ev f) c.args.toList c.argTypes.toList σ K) (hn : NextOk P b0 N o a K next) : o.wp P a w next Q := by
 have hf := ev_rd m f
 unfold callD at h
 split at h
 ·rename_i g rs0 caps e
  rw [e] at hf
  obtain ⟨cvs, hfv, hcl, hcr⟩ := (hf.flat (d := .clo g rs0 caps) rfl).clo_inv
  have hcaps : All2 (Rp w S) cvs.toList caps := all2_of hcl hcr
  have hrun' : Ent P g → (execOp a.eval o).run P w = .ok (.enter g (c.args.map a.eval ++ cvs)) w := fun hent => by
   unfold execOp; rw [ho]
   simp only [resolve, hc, hfv, Deferred.ofValue, invoke, Sem.run_bind, Sem.run_pure, Result.andThen_ok, Array.empty_append]
   exact hent _ _
  split at h
  ·rename_i hs hl
   have hz := zipH_rd (E := E) m hs.raw c.args.toList c.argTypes.toList
   unfold Oper.wp
   rw [hrun' (F.hsig g hs (by cases rs0 with | none => exact hl | some _ => cases hl))]
   exact zSn m h (by simpa using hz) hcaps hn
  split at h
  ·rename_i rs hl
   obtain ⟨hent0, h⟩ := z1g.1 h
   have hent : Ent P g := by
    cases rs0 with
    | some r => exact hent0 rfl
    | none => exact F.sig g rs hl
   have hrun : (execOp a.eval o).run P w = .ok (.enter g (c.args.map a.eval ++ cvs)) w := by
    unfold execOp; rw [ho]
    simp only [resolve, hc, hfv, Deferred.ofValue, invoke, Sem.run_bind, Sem.run_pure, Result.andThen_ok, Array.empty_append]
    exact hent _ _
   have hz := zUd (E := E) m c.args.toList c.argTypes.toList
   have fin : ∀ {P' : Prop}, (Calls P g (c.args.map a.eval ++ cvs) w fun
     | .returned v, w'' => next (a.put o.dst v) w''
     | .panicked chain, w'' => Q (.panic chain) a w''
     | .outgrown, _ => LetsOut Q) → o.wp P a w next Q := fun h => by
    unfold Oper.wp
    rw [hrun]; exact h
   simp only at h
   cases hsc : rs.all Ty.scalar with
   | true =>
    rw [hsc, cond_true] at h
    cases hfl : ((zipFix E σ c.args.toList c.argTypes.toList).map (viewD σ)).all noRef with
    | false => rw [hfl] at h; exact h.elim
    | true =>
     rw [hfl, cond_true] at h
     obtain ⟨r, hs, hK, hsr⟩ := retP_ok h
     have hlt : ∀ b, (S b ∨ Priv σ pl b) → b < w.heap.size := fun b hb => by
      rcases hb with hb | ⟨k, o', hk, hb⟩
      ·exact m.lt b hb
      ·exact (m.priv k o' b hk hb).2.1
     have hv : All2 (Rd w (fun b => S b ∨ Priv σ pl b) pl) (c.args.toList.map a.eval) ((zipFix E σ c.args.toList c.argTypes.toList).map (viewD σ)) := All2.map_right (hz.imp fun _ _ h => view_rd m h)
     have hv' := hv.flat fun d hd => zL.1 (List.all_eq_true.1 hfl d hd)
     refine fin (P' := True) (zSi hs (m.gnow fun _ h => h.elim) hlt (by simpa using hv'.append (hcaps.rmono (fun _ _ => rfl) fun _ h => .inl h)) fun v w' hr hb => ?_)
     exact hn _ _ _ _ _ _ hK (m.later hb) (hsr hsc w' _ _ v hr).rd
   | false =>
    rw [hsc, cond_false] at h
    obtain ⟨σ', ds', S', hK, hS, m', hv⟩ := zM h m
    obtain ⟨r, hs, hK, _⟩ := retP_ok hK
    have hv' := hv _ hz
    refine fin (P' := True) (zSi hs (m'.gnow fun _ h => h.elim) m'.lt (by simpa using hv'.append (hcaps.rmono (fun _ _ => rfl) hS)) fun v w' hr hb => ?_)
    exact hn _ _ _ _ _ _ hK (m'.called hb) hr.rd
  ·exact h.elim
 ·exact h.elim
theorem op_wp (F : Facts P E) (m : MtB P b0 N σ a w S pl) (h : opD P E A o σ K) (hn : NextOk P b0 N o a K next) : o.wp P a w next Q := by
 have h0 := h
 unfold opD at h
 split at h
 ·rename_i x ho; exact mov_wp F m (.inl ho) h hn
 ·rename_i x ho; exact mov_wp F m (.inr ho) h hn
 ·rename_i c x y ho
  split at h
  ·rename_i t hc; exact pick_wp m ho hc h hn
  ·exact h.elim
 ·rename_i T ho; exact zwn F m ho h hn
 ·rename_i T x ho; exact box_wp F m ho h hn
 ·rename_i T parts ho; exact zFn F m ho h hn
 ·rename_i T len parts ho; exact zHn F m ho h hn
 ·rename_i T x ho; exact load_wp F m ho h hn
 ·rename_i T x y ho; exact zCn F m ho h hn
 ·rename_i x ho; exact zBn m ho h0 hn
 ·rename_i op T x y T' ho; exact bin2_wp F m ho h hn
 ·rename_i T ho; exact zJn F m ho h hn
 ·rename_i T x y z ho; exact zOn F m ho h hn
 ·rename_i T x y ok ho; exact zMn F m ho h hn
 ·rename_i op T x ho; exact un_wp m ho h hn
 ·rename_i src dst x ho; exact conv_wp F m ho h hn
 ·rename_i f first caps ho
  split at h
  ·rename_i hf; exact zVn m ho hf h hn
  ·exact h.elim
 ·rename_i T x lo hi ho; exact zTn F m ho h hn
 ·rename_i T x f ho; exact zxn F m ho h hn
 ·rename_i T x ix ho; exact zyn F m ho h hn
 ·rename_i T x ix ho; exact zzn F m ho h hn
 ·rename_i x i ho; exact zAn m ho h hn
 ·rename_i T l c ho; exact zIn F m ho h hn
 ·rename_i c ho
  split at h
  ·rename_i hc
   split at h
   ·rename_i x T ha ht; exact len_wp F m ho hc ha ht h hn
   ·exact h.elim
  ·rename_i hc
   split at h
   ·rename_i x y T T' ha ht; exact zUn F m ho hc ha ht h hn
   ·exact h.elim
  ·rename_i hc
   split at h
   ·rename_i x y ha; exact max_run m ho hc ha h hn
   ·exact h.elim
  ·rename_i f hc; exact call_wp F m ho hc h hn
  ·exact h.elim
 ·exact h.elim
end
end Go.Proofs.YtajnbkhgnppckaaGreatDoor
/- A denotation of the program's code on plain data: regions, code, functions. -/
namespace Go.Proofs.YtajnbkhgnppckaaGreatDoor
open Go.RowKit
set_option linter.unusedVariables false
set_option linter.unusedSimpArgs false
inductive Ex | normal | exit (id : Nat) | ret
def gslot (all : List Oper) (j : Nat) : Option Nat := match all[j]? with
 | some o => o.dst
 | none => none
def guardD (all : List Oper) (o : Oper) (σ : St) (yes no : St → Prop) : Prop := match o.guard with
 | none => yes σ
 | some (j, want) => match gslot all j with
  | some s => match σ.get s with
   | .bool b => sel b (match want with | true => yes (σ.put s (.bool true)) | false => no (σ.put s (.bool true))) (match want with | true => no (σ.put s (.bool false)) | false => yes (σ.put s (.bool false)))
   | .tup [] => no σ
   | _ => False
  | none => False
def wantedA (all : List Oper) (o : Oper) (σ : St) : Option Bool := match o.guard with
 | none => some true
 | some (j, want) => match gslot all j with
  | some s => match σ.get s with
   | .bool b => some (b == want)
   | .tup [] => some false
   | _ => none
  | none => none
def opsD (P : Program) (E : TE) (A : Ann) (all : List Oper) : List Oper → St → (St → Prop) → Prop
 | [], σ, K => K σ
 | o :: r, σ, K => guardD all o σ (fun σ => opD P E A o σ fun d σ => opsD P E A all r (σ.putO o.dst d) K) fun σ => opsD P E A all r (σ.putO o.dst (.tup [])) K
def TE.q (E : TE) : TE := { E with hsig := [], vals := [], nilq := false }
def isNilC : Operand → Bool
 | .const (.slice none 0 0) => true
 | _ => false
def isQuiet (E : TE) (A : Ann) (o : Oper) : Bool := match o.op with
 | .store _ _ _ => false
 | .mapUpdate _ _ _ _ => false
 | .move x => !isNilC x || (ownKey A o.dst).isNone
 | .assign x => !isNilC x || (ownKey A o.dst).isNone
 | .binOp _ _ _ y _ => !isNilC y
 | .alloc _ => (ownKey A o.dst).isNone
 | .box _ _ => (ownKey A o.dst).isNone
 | .buildSlice _ _ _ => (ownKey A o.dst).isNone
 | .makeSlice _ _ _ => (ownKey A o.dst).isNone
 | .makeMap _ _ => (ownKey A o.dst).isNone
 | .build T _ => !memN T E.vals
 | .call c => match c.callee with
  | .builtin .append => false
  | .value (.func f) => match look f E.hsig with
   | some _ => false
   | none => true
  | _ => true
 | _ => true
def Ann.quiet (A : Ann) : Ann := { A with own := [], q := 1 }
def runQ (P : Program) (E : TE) (A : Ann) (all : List Oper) (o : Oper) (σ : St) (K : St → Prop) : Prop :=
 guardD all o σ (fun σ => opD P E.q A.quiet o σ fun d _ => K (σ.putO o.dst d)) fun σ => K (σ.putO o.dst (.tup []))
def runB (P : Program) (E : TE) (A : Ann) (all : List Oper) (o : Oper) (σ : St) (K : St → Prop) : Prop :=
 guardD all o σ (fun σ => opD P E.q A.quiet o σ fun d _ => bif noRef d then K (σ.putO o.dst d) else False) fun σ => K (σ.putO o.dst (.tup []))
def runL (P : Program) (E : TE) (A : Ann) (all : List Oper) (o : Oper) (σ : St) (K : St → Prop) : Prop :=
 guardD all o σ (fun σ => opD P E A o σ fun d σ => K (σ.putO o.dst d)) fun σ => K (σ.putO o.dst (.tup []))
def runE (P : Program) (E : TE) (A : Ann) (all : List Oper) (o : Oper) (σ : St) (K : St → Prop) : Prop := match isQuiet E A o with
 | true => runQ P E A all o σ K
 | false => runL P E A all o σ K
def edgeOn (o : Oper) (i : Nat) : Bool := o.after.toList.any fun e => Region.binds .any e && Nat.beq e.on i
def goesFirst (all : List Oper) (listed : Array Bool) (i : Nat) (oi : Oper) (f : Oper → Bool) : Nat → List Oper → Bool
 | _, [] => true
 | k, oj :: r => (Nat.beq k i || listed.getD k true || edgeOn oj i || (oi.apart all.toArray oj && f oj)) && goesFirst all listed i oi f (k + 1) r
def pureB (all : List Oper) (o : Oper) (σ : St) : Bool := o.op.operands.toList.all fun x => noRef (σ.ev x)
def canonA (E : TE) (A : Ann) (all : List Oper) (listed : Array Bool) (i : Nat) : Bool := match all[i]? with
 | some oi => isQuiet E A oi && goesFirst all listed i oi (isQuiet E A) 0 all
 | none => false
def canonB (E : TE) (A : Ann) (all : List Oper) (listed : Array Bool) (σ : St) (i : Nat) : Bool := match all[i]? with
 | some oi => isQuiet E A oi && pureB all oi σ && goesFirst all listed i oi (fun _ => true) 0 all
 | none => false
def findB (f : Nat → Bool) : List Nat → Option Nat
 | [] => none
 | i :: r => bif f i then some i else findB f r
def allP (f : Nat → Prop) : List Nat → Prop
 | [] => True
 | [i] => f i
 | i :: j :: r => f i ∧ allP f (j :: r)
def atD (all : List Oper) (i : Nat) (f : Oper → Prop) : Prop := match all[i]? with
 | some o => f o
 | none => False
def anyX (P : Program) (E : TE) (A : Ann) (all : List Oper) (K : St → Prop) : Nat → Array Bool → St → Prop
 | 0, listed, σ => match Region.ready .any all.toArray listed with
  | [] => K σ
  | _ => False
 | fuel + 1, listed, σ => match Region.ready .any all.toArray listed with
  | [] => K σ
  | r => match findB (canonA E A all listed) r with
   | some i => atD all i fun o => runQ P E A all o σ (anyX P E A all K fuel (listed.setIfInBounds i true))
   | none => match findB (canonB E A all listed σ) r with
    | some i => atD all i fun o => runB P E A all o σ (anyX P E A all K fuel (listed.setIfInBounds i true))
    | none => allP (fun i => atD all i fun o => runE P E A all o σ (anyX P E A all K fuel (listed.setIfInBounds i true))) r
def isSel : Op → Bool
 | .select _ _ => true
 | _ => false
def canonC (all : List Oper) (listed : Array Bool) (σ : St) (i : Nat) : Bool := match all[i]? with
 | some oi => (match oi.op with
  | .fieldAddr _ (.tmp t) _ => (match σ.get t with
   | .ptr _ _ => true
   | _ => false)
  | .move (.tmp t) => (match σ.get t with
   | .ptr _ _ => true
   | _ => false)
  | .nilCheck (.tmp t) => (match σ.get t with
   | .ptr _ _ => true
   | _ => false)
  | _ => false) && oi.guard.isNone && goesFirst all listed i oi (fun _ => true) 0 all && all.all (fun o => !isSel o.op)
 | none => false
def anyC (P : Program) (E : TE) (A : Ann) (all : List Oper) (K : St → Prop) : Nat → Array Bool → St → Prop
 | 0, listed, σ => anyX P E A all K 0 listed σ
 | fuel + 1, listed, σ => match A.first with
  | false => anyX P E A all K (fuel + 1) listed σ
  | true => match findB (canonC all listed σ) (Region.ready .any all.toArray listed) with
   | some i => atD all i fun o => opD P E A o σ fun d σ => anyC P E A all K fuel (listed.setIfInBounds i true) (σ.putO o.dst d)
   | none => anyX P E A all K (fuel + 1) listed σ
def dstOk (n : Nat) : List Oper → Bool
 | [] => true
 | o :: r => (match o.dst with
  | some d => Nat.ble (d + 1) n
  | none => true) && dstOk n r
def liveOf (A : Ann) (c : Nat) : List Nat × List Nat := match look c A.live with
 | some l => l
 | none => ([], [])
def keepHp (σ : St) : List Nat → List (Nat × HObj)
 | [] => []
 | k :: r => match σ.ob k with
  | some o => (k, o) :: keepHp σ r
  | none => keepHp σ r
def St.keep (σ : St) (L : List Nat × List Nat) : St := ⟨L.1.map fun i => (i, σ.get i), keepHp σ L.2⟩
def danglers (σ : St) (L : List Nat × List Nat) : List D :=
 ((L.1.map fun i => σ.get i) ++ (L.2.flatMap fun k => match σ.ob k with
  | some (.cells ds) => ds
  | some (.val ds) => ds
  | _ => [])).filter fun d => match d.ref with
   | some k => !memN k L.2
   | none => false
def pubHead (σ : St) (k off : Nat) : St := bif Nat.beq off 999999 then (match σ.ob k with
 | some o => bif o.flatB then σ.pub k o else σ
 | none => σ) else pubField σ k off
def headPubs : List (Nat × Nat) → St → St
 | [], σ => σ
 | (k, off) :: r, σ => headPubs r (pubHead σ k off)
def headNils : List (Nat × (Nat × (TypeId × Ty))) → St → St
 | [], σ => σ
 | (k, off, e, t) :: r, σ => headNils r (nilRow σ k off e t)
def headD (A : Ann) (L : List Nat × List Nat) (σ : St) (K : St → Prop) : Prop :=
 let σ := headNils A.nils (headPubs A.pubs σ)
 withPubs 12 σ (danglers σ L) fun _ σ => K (σ.keep L)
def St.know (σ : St) (x : Operand) (b : Bool) : St := match x with
 | .tmp s => σ.put s (.bool b)
 | _ => σ
def iter (body : St → (Ex → St → Prop) → Prop) (A : Ann) (L : List Nat × List Nat) : Nat → St → (Ex → St → Prop) → Prop
 | 0, _, _ => False
 | n + 1, σ, K => body σ fun e σ => match e with
  | .normal => headD A L σ fun σ => iter body A L n σ K
  | .exit id => K (.exit id) σ
  | .ret => K .ret σ
def den (P : Program) (E : TE) (A : Ann) : Code → Nat → St → (Ex → St → Prop) → Prop
 | .skip, _, σ, K => K .normal σ
 | .region _ ops draw, _, σ, K => match dstOk A.n ops.toList with
  | true => (match draw with
   | false => opsD P E A ops.toList ops.toList σ (K .normal)
   | true => anyC P E A ops.toList (K .normal) ops.size (Array.replicate ops.size false) σ)
  | false => False
 | .seq a b, c, σ, K => den P E A a c σ fun e σ => match e with
  | .normal => den P E A b c σ K
  | .exit id => K (.exit id) σ
  | .ret => K .ret σ
 | .cond x a b, c, σ, K => match σ.ev x with
  | .bool t => sel t (den P E A a c (σ.know x true) K) (den P E A b c (σ.know x false) K)
  | _ => False
 | .block id body, _, σ, K => den P E A body id σ fun e σ => match e with
  | .normal => K .normal σ
  | .exit j => bif Nat.beq j id then K .normal σ else K (.exit j) σ
  | .ret => K .ret σ
 | .loop body, c, σ, K => headD A (liveOf A c) σ fun σ => ∃ n, iter (den P E A body c) A (liveOf A c) n σ K
 | .exit id, _, σ, K => K (.exit id) σ
 | .ret, _, σ, K => K .ret σ
 | _, _, _, _ => False
def exOf : Exit → Option Ex
 | .normal => some .normal
 | .exit id => some (.exit id)
 | .ret => some .ret
 | _ => none
section
variable {P : Program} {E : TE} {A : Ann} {b0 : Base} {w w' : World} {S S' : Nat → Prop} {pl pl' : Nat → Value} {N : Nat} {σ σ' : St} {a : Act} {v : Value} {d : D} {o : Oper}
def Mt (P : Program) (b0 : Base) (N : Nat) (σ : St) (a : Act) (w : World) : Prop := ∃ S pl, MtB P b0 N σ a w S pl
def QK (P : Program) (b0 : Base) (N : Nat) (K : Ex → St → Prop) (e : Exit) (a : Act) (w : World) : Prop := ∃ x σ, exOf e = some x ∧ K x σ ∧ Mt P b0 N σ a w
structure Like (σ σ' : St) : Prop where
 get : ∀ i, σ'.get i = σ.get i
 hp : ∀ k, look k σ'.hp = look k σ.hp
theorem Like.refl (σ : St) : Like σ σ := ⟨fun _ => rfl, fun _ => rfl⟩
theorem Like.symm (h : Like σ σ') : Like σ' σ := ⟨fun i => (h.get i).symm, fun k => (h.hp k).symm⟩
theorem Like.trans {σ'' : St} (h : Like σ σ') (h' : Like σ' σ'') : Like σ σ'' := ⟨fun i => (h'.get i).trans (h.get i), fun k => (h'.hp k).trans (h.hp k)⟩
theorem Like.ob (h : Like σ σ') (k : Nat) : σ'.ob k = σ.ob k := h.hp k
theorem Like.put (h : Like σ σ') (i : Nat) (d : D) : Like (σ.put i d) (σ'.put i d) := ⟨fun j => by rw [St.get_put, St.get_put, h.get], h.hp⟩
theorem Like.putO (h : Like σ σ') (i : Option Nat) (d : D) : Like (σ.putO i d) (σ'.putO i d) := by
 cases i with
 | none => exact h
 | some i => exact h.put i d
theorem Like.ev (h : Like σ σ') (x : Operand) : σ'.ev x = σ.ev x := by
 cases x <;> first | exact h.get _ | rfl
theorem MtB.like (m : MtB P b0 N σ a w S pl) (h : Like σ σ') : MtB P b0 N σ' a w S pl :=
 ⟨m.dz, m.sz, fun i => by rw [h.get]; exact m.fr i, fun k o hk => m.hp k o (by rw [← h.hp]; exact hk), m.lt, m.src, fun k o b hk => m.priv k o b (by rw [← h.hp]; exact hk),
  fun k k' o o' b h1 h2 => m.inj k k' o o' b (by rw [← h.hp]; exact h1) (by rw [← h.hp]; exact h2), m.below, m.stay, m.gok⟩
theorem Mt.like (m : Mt P b0 N σ a w) (h : Like σ σ') : Mt P b0 N σ' a w := let ⟨S, pl, m⟩ := m; ⟨S, pl, m.like h⟩
theorem zVd {s : Nat} {d : D} (h : σ.get s = d) : Like σ (σ.put s d) := ⟨fun i => by
 rw [St.get_put]
 split
 ·rename_i e; subst e; exact h.symm
 ·rfl, fun _ => rfl⟩
theorem pubs1 {ds : List D} {K : List D → St → Prop} : withPubs 1 σ ds K ↔ firstRef ds = none ∧ K ds σ := by
 unfold withPubs pubs
 cases firstRef ds with
 | none => simp
 | some k =>
  simp only [pubs]
  cases σ.ob (pickRef σ 4 k) with
  | none => simp
  | some o => cases o.flatB <;> simp
def EvEq (o : Oper) (σ σ' : St) : Prop := (∀ x ∈ o.op.operands, σ'.ev x = σ.ev x) ∧ ∀ x ∈ o.op.operands, ∀ k, (σ.ev x).ref = some k → σ'.ob k = σ.ob k
theorem zWn {d : D} (h : ∀ k, d.ref = some k → σ'.ob k = σ.ob k) : addrCells σ' d = addrCells σ d := by cases d <;> first | rfl | simp only [addrCells, h _ rfl]
theorem zWd {d : D} (h : ∀ k, d.ref = some k → σ'.ob k = σ.ob k) : vcells σ' d = vcells σ d := by cases d <;> first | rfl | simp only [vcells, h _ rfl]
theorem zXn {d : D} (h : ∀ k, d.ref = some k → σ'.ob k = σ.ob k) : viewD σ' d = viewD σ d := by cases d <;> first | rfl | simp only [viewD, h _ rfl]
theorem zYn {d : D} (h : ∀ k, d.ref = some k → σ'.ob k = σ.ob k) : mapOf σ' d = mapOf σ d := by cases d <;> first | rfl | simp only [mapOf, h _ rfl]
theorem zTi {T : TypeId} {d : D} {k : Nat} (h : (nilFix E T d).ref = some k) : d.ref = some k := by
 cases d <;> first | exact h | (unfold nilFix at h; simp only at h; split at h <;> cases h)
theorem zUi {n : Int} {x : Option Operand} (h : ∀ y, x = some y → σ'.ev y = σ.ev y) : boundD σ' n x = boundD σ n x := by
 cases x with
 | none => rfl
 | some y => simp only [boundD, h y rfl]
theorem zLc {place : Nat → Option (Nat × Nat)} : ∀ (parts : List (Nat × Operand)) (ds : List D), (∀ x ∈ parts, σ'.ev x.2 = σ.ev x.2) → (∀ x ∈ parts, ∀ k, (σ.ev x.2).ref = some k → σ'.ob k = σ.ob k) → fillD σ' place ds parts = fillD σ place ds parts
 | [], ds, _, _ => rfl
 | (f, x) :: r, ds, hx, ho => by
  unfold fillD
  have hr : ∀ ds, fillD σ' place ds r = fillD σ place ds r := fun ds => zLc (place := place) r ds (fun y hy => hx y (List.mem_cons_of_mem _ hy)) fun y hy => ho y (List.mem_cons_of_mem _ hy)
  have hv : vcells σ' (σ.ev x) = vcells σ (σ.ev x) := zWd (ho (f, x) List.mem_cons_self)
  have hm : ∀ z : Option D, fillNew σ' (σ.ev x) z = fillNew σ (σ.ev x) z := fun z => by
   unfold fillNew
   split
   ·rfl
   ·rfl
   ·exact hv
  rw [show σ'.ev x = σ.ev x from hx (f, x) List.mem_cons_self]
  simp only [hr, hm]
theorem zXd : ∀ (xs : List Operand) (ts : List TypeId), (∀ x ∈ xs, σ'.ev x = σ.ev x) → zipFix E σ' xs ts = zipFix E σ xs ts
 | [], _, _ => rfl
 | x :: xs, [], h => by unfold zipFix; rw [h x List.mem_cons_self, zXd xs [] fun y hy => h y (List.mem_cons_of_mem _ hy)]
 | x :: xs, T :: ts, h => by unfold zipFix; rw [h x List.mem_cons_self, zXd xs ts fun y hy => h y (List.mem_cons_of_mem _ hy)]
theorem zipH_eq {raw : Bool} (xs : List Operand) (ts : List TypeId) (h : ∀ x ∈ xs, σ'.ev x = σ.ev x) : zipH raw E σ' xs ts = zipH raw E σ xs ts := by
 cases raw
 ·exact zXd xs ts h
 ·exact List.map_congr_left h
theorem z2g : ∀ {xs : List Operand} {ts : List TypeId} {d : D} {k : Nat}, d ∈ zipFix E σ xs ts → d.ref = some k → ∃ x ∈ xs, (σ.ev x).ref = some k
 | [], _, d, k, h, _ => by unfold zipFix at h; cases h
 | x :: xs, [], d, k, h, hr => by
  unfold zipFix at h
  rcases List.mem_cons.1 h with rfl | h
  ·exact ⟨x, List.mem_cons_self, hr⟩
  ·obtain ⟨y, hy, e⟩ := z2g h hr; exact ⟨y, List.mem_cons_of_mem _ hy, e⟩
 | x :: xs, T :: ts, d, k, h, hr => by
  unfold zipFix at h
  rcases List.mem_cons.1 h with rfl | h
  ·exact ⟨x, List.mem_cons_self, zTi hr⟩
  ·obtain ⟨y, hy, e⟩ := z2g h hr; exact ⟨y, List.mem_cons_of_mem _ hy, e⟩
theorem evs_eq {xs : List Operand} (h : ∀ x ∈ xs, σ'.ev x = σ.ev x) : xs.map σ'.ev = xs.map σ.ev := List.map_congr_left h
theorem own_nil (A : Ann) (d : Option Nat) : ownKey A.quiet d = none := by cases d <;> rfl
theorem zOb (hq : isQuiet E A o = true) (he : EvEq o σ σ') {K : D → Prop} (h : opD P E.q A.quiet o σ fun d _ => K d) : ∃ d, K d ∧ ∀ K' : D → St → Prop, K' d σ' → opD P E.q A.quiet o σ' K' := by
 obtain ⟨h1, h2⟩ := he
 unfold opD at h ⊢
 cases ho : o.op <;> rw [ho] at h h1 h2 <;> simp only [Op.operands] at h h1 h2 ⊢
 case move x =>
  rw [h1 x (by simp)]
  unfold movD at h ⊢
  split at h
  ·split at h
   ·rw [own_nil] at h ⊢; exact ⟨_, h, fun K' hk => hk⟩
   ·exact ⟨_, h, fun K' hk => hk⟩
  ·exact ⟨_, h, fun K' hk => hk⟩
 case assign x =>
  rw [h1 x (by simp)]
  unfold movD at h ⊢
  split at h
  ·split at h
   ·rw [own_nil] at h ⊢; exact ⟨_, h, fun K' hk => hk⟩
   ·exact ⟨_, h, fun K' hk => hk⟩
  ·exact ⟨_, h, fun K' hk => hk⟩
 case pick c x y =>
  rw [h1 c (by simp), h1 x (by simp), h1 y (by simp)]
  generalize σ.ev c = dc at h ⊢
  split at h
  ·rename_i t
   cases t
   ·exact ⟨_, h, fun K' hk => hk⟩
   ·exact ⟨_, h, fun K' hk => hk⟩
  ·exact h.elim
 case alloc T =>
  unfold allocD at h ⊢
  split at h
  ·rw [own_nil] at h ⊢; exact ⟨_, h, fun K' hk => hk⟩
  ·exact h.elim
 case box T x =>
  unfold boxD at h ⊢
  rw [h1 x (by simp), zWd fun k hk => h2 x (by simp) k (zTi hk)]
  split at h
  ·rw [own_nil] at h ⊢
   rw [show A.quiet.q = 1 from rfl] at h ⊢
   obtain ⟨hf, h⟩ := pubs1.1 h
   exact ⟨_, h, fun K' hk => pubs1.2 ⟨hf, hk⟩⟩
  ·exact h.elim
 case build T parts =>
  unfold buildD at h ⊢
  split at h
  ·rename_i zs offs _ _
   have hp : ∀ x ∈ parts.toList, x.2 ∈ (parts.toList.map (·.2)).toArray := fun x hx => by simp only [List.mem_toArray, List.mem_map]; exact ⟨x, hx, rfl⟩
   rw [zLc parts.toList zs (fun x hx => h1 x.2 (hp x hx)) fun x hx => h2 x.2 (hp x hx)]
   split at h
   ·rw [show A.quiet.q = 1 from rfl] at h ⊢
    obtain ⟨hf, h⟩ := pubs1.1 h
    exact ⟨_, h, fun K' hk => pubs1.2 ⟨hf, hk⟩⟩
   ·exact h.elim
  ·exact h.elim
 case buildSlice T len parts =>
  unfold buildSliceD at h ⊢
  split at h
  ·rename_i e t _
   have hp : ∀ x ∈ parts.toList, x.2 ∈ (parts.toList.map (·.2)).toArray := fun x hx => by simp only [List.mem_toArray, List.mem_map]; exact ⟨x, hx, rfl⟩
   rw [zLc parts.toList _ (fun x hx => h1 x.2 (hp x hx)) fun x hx => h2 x.2 (hp x hx)]
   cases hb : room t len && Nat.ble (len * t.size) 16777216 with
   | false => rw [hb] at h; exact h.elim
   | true =>
    rw [hb, cond_true] at h
    simp only [cond_true]
    split at h
    ·rw [show A.quiet.q = 1 from rfl] at h ⊢
     obtain ⟨hf, h⟩ := pubs1.1 h
     split at h
     ·rename_i xs hel
      rw [own_nil] at h
      refine ⟨_, h, fun K' hk => pubs1.2 ⟨hf, ?_⟩⟩
      rw [hel, own_nil]
      exact hk
     ·exact h.elim
    ·exact h.elim
  ·exact h.elim
 case load T x =>
  unfold loadD at h ⊢
  rw [h1 x (by simp), zWn (h2 x (by simp))]
  split at h
  ·rename_i ag zs _
   split at h
   ·rename_i cs _
    cases hb : Nat.ble zs.length cs.length with
    | false => rw [hb] at h; exact h.elim
    | true =>
     rw [hb, cond_true] at h
     simp only [cond_true]
     cases ag with
     | true =>
      rw [show A.quiet.q = 1 from rfl] at h ⊢
      obtain ⟨hf, h⟩ := pubs1.1 h
      exact ⟨_, h, fun K' hk => pubs1.2 ⟨hf, hk⟩⟩
     | false =>
      cases cs with
      | nil => exact h.elim
      | cons d r => exact ⟨_, h, fun K' hk => hk⟩
   ·exact h.elim
  ·exact h.elim
 case store T x y => simp only [isQuiet, ho, Bool.false_eq_true] at hq
 case nilCheck x =>
  rw [h1 x (by simp)]
  split at h
  ·exact ⟨_, h, fun K' hk => hk⟩
  ·exact ⟨_, h, fun K' hk => hk⟩
  ·exact ⟨_, h, fun K' hk => hk⟩
  ·exact ⟨_, h, fun K' hk => hk⟩
  ·exact h.elim
 case binOp op T x y T' =>
  rw [h1 x (by simp), h1 y (by simp)]
  have hE : ∀ (op : BinOp) (b : Bool) (K : D → Prop), eqK op b K → ∃ d, K d ∧ ∀ K' : D → Prop, K' d → eqK op b K' := fun op b K h => by
   unfold eqK at h ⊢
   split at h
   ·exact ⟨_, h, fun K' hk => hk⟩
   ·exact ⟨_, h, fun K' hk => hk⟩
   ·exact h.elim
  unfold bin2D at h ⊢
  split at h
  ·split at h
   ·split at h
    ·obtain ⟨d, q1, q2⟩ := hE _ _ _ h
     exact ⟨d, q1, fun K' hk => q2 (fun d => K' d σ') hk⟩
    ·exact h.elim
   ·exact h.elim
  ·exact h.elim
  ·exact h.elim
  ·exact h.elim
  ·split at h <;> exact h.elim
  ·unfold binD at h ⊢
   split at h
   ·split at h <;> first | exact h.elim | exact ⟨_, h, fun K' hk => hk⟩ | exact ⟨_, h.2, fun K' hk => ⟨h.1, hk⟩⟩
   ·split at h <;> first | exact h.elim | exact ⟨_, h, fun K' hk => hk⟩
   ·split at h <;> first | exact h.elim | exact ⟨_, h, fun K' hk => hk⟩ | exact ⟨_, h.2, fun K' hk => ⟨h.1, hk⟩⟩
   ·cases hb : memN T E.q.bools with
    | false => rw [hb] at h; exact h.elim
    | true =>
     rw [hb, cond_true] at h
     simp only [cond_true]
     split at h <;> first | exact h.elim | exact ⟨_, h, fun K' hk => hk⟩
   ·exact h.elim
 case makeMap T r =>
  cases r with
  | some _ => exact h.elim
  | none =>
   simp only at h ⊢
   unfold makeMapD at h ⊢
   split at h
   ·rw [own_nil] at h ⊢; exact ⟨_, h, fun K' hk => hk⟩
   ·exact h.elim
 case mapUpdate T m x y => simp only [isQuiet, ho, Bool.false_eq_true] at hq
 case lookup T m x ok =>
  rw [h1 m (by simp), h1 x (by simp)]
  unfold lookupD at h ⊢
  rw [zYn (h2 m (by simp))]
  split at h
  ·rename_i kt0 vt0 kt vt es _ _
   cases hb : decide (kt = kt0) && decide (vt = vt0) with
   | false => rw [hb] at h; exact h.elim
   | true =>
    rw [hb, cond_true] at h
    simp only [cond_true]
    split at h
    ·cases ok
     ·exact ⟨_, h, fun K' hk => hk⟩
     ·exact ⟨_, h, fun K' hk => hk⟩
    ·exact h.elim
  ·exact h.elim
 case unOp op T x =>
  rw [h1 x (by simp)]
  unfold unD at h ⊢
  split at h <;> first | exact h.elim | exact ⟨_, h, fun K' hk => hk⟩
 case convert src dst x =>
  rw [h1 x (by simp)]
  unfold convD at h ⊢
  split at h
  ·split at h <;> first | exact h.elim | exact ⟨_, h, fun K' hk => hk⟩
  ·exact h.elim
 case makeFunc fn first caps =>
  cases fn <;> simp only at h ⊢
  case func f =>
   rw [evs_eq fun x hx => h1 x (by simp; exact .inr (by simpa using hx))]
   split at h
   ·rw [show A.quiet.q = 1 from rfl] at h ⊢
    obtain ⟨hf, h⟩ := pubs1.1 h
    exact ⟨_, h, fun K' hk => pubs1.2 ⟨hf, hk⟩⟩
   ·exact h.elim
  all_goals exact h.elim
 case makeSlice T l c =>
  rw [h1 l (by simp), h1 c (by simp)]
  unfold makeSliceD at h ⊢
  split at h
  ·split at h
   ·rw [own_nil] at h ⊢
    exact ⟨_, h.2.2.2, fun K' hk => ⟨h.1, h.2.1, h.2.2.1, hk⟩⟩
   ·exact h.elim
  ·exact h.elim
 case slice T x lo hi mx =>
  cases mx with
  | some m => exact h.elim
  | none =>
   simp only at h ⊢
   have e1 : ∀ n, boundD σ' n lo = boundD σ n lo := fun n => zUi fun y hy => h1 y (by subst hy; simp)
   have e2 : ∀ n, boundD σ' n hi = boundD σ n hi := fun n => zUi fun y hy => h1 y (by subst hy; simp)
   rw [h1 x (by simp)]
   unfold sliceD at h ⊢
   split at h
   ·simp only [e1, e2]
    rename_i s _
    cases hb : memN T E.q.strs with
    | false => rw [hb] at h; exact h.elim
    | true =>
     rw [hb, cond_true] at h
     simp only [cond_true]
     split at h
     ·exact ⟨_, h.2, fun K' hk => ⟨h.1, hk⟩⟩
     ·exact h.elim
   ·rw [show A.quiet.q = 1 from rfl] at h ⊢
    obtain ⟨hf, h⟩ := pubs1.1 h
    split at h
    ·rename_i t xs heq
     split at h
     ·rename_i e t' l hh q1 q2 q3
      cases hb : Nat.beq t'.size t.size with
      | false => rw [hb] at h; exact h.elim
      | true =>
       rw [hb, cond_true] at h
       refine ⟨_, h.2, fun K' hk => pubs1.2 ⟨hf, ?_⟩⟩
       have e3 : σ.ev x = .sl t xs := by injection heq
       simp only [e1, e2, e3, q1, q2, q3, hb, cond_true]
       exact ⟨h.1, hk⟩
     ·exact h.elim
    ·exact h.elim
 case fieldAddr T x f =>
  rw [h1 x (by simp)]
  unfold fieldD at h ⊢
  split at h
  ·split at h <;> first | exact h.elim | exact ⟨_, h, fun K' hk => hk⟩
  ·exact h.elim
 case indexAddr T x ix =>
  rw [h1 x (by simp), h1 ix (by simp)]
  unfold indexAddrD at h ⊢
  split at h
  ·rename_i e t' _
   split at h
   ·split at h
    ·rename_i t xs _
     cases hb : Nat.beq t'.size t.size with
     | false => rw [hb] at h; exact h.elim
     | true => rw [hb, cond_true] at h; simp only [cond_true]; exact ⟨_, h.2, fun K' hk => ⟨h.1, hk⟩⟩
    ·rename_i j hj
     rw [h2 x (by simp) j (by rw [hj]; rfl)]
     split at h
     ·rename_i t xs _
      cases hb : Nat.beq t'.size t.size with
      | false => rw [hb] at h; exact h.elim
      | true => rw [hb, cond_true] at h; simp only [cond_true]; exact ⟨_, h.2, fun K' hk => ⟨h.1, hk⟩⟩
     ·exact h.elim
    ·exact h.elim
   ·exact h.elim
  ·exact h.elim
 case index T x ix =>
  rw [h1 x (by simp), h1 ix (by simp)]
  unfold indexD at h ⊢
  split at h
  ·cases hb : memN T E.q.strs with
   | false => rw [hb] at h; exact h.elim
   | true => rw [hb, cond_true] at h; simp only [cond_true]; exact ⟨_, h.2, fun K' hk => ⟨h.1, hk⟩⟩
  ·exact h.elim
 case extract x i =>
  rw [h1 x (by simp)]
  unfold extractD at h ⊢
  split at h
  ·split at h
   ·exact ⟨_, h, fun K' hk => hk⟩
   ·exact h.elim
  ·exact h.elim
 case call c =>
  have hargs : ∀ x ∈ c.args.toList, σ'.ev x = σ.ev x := fun x hx => h1 x (by simp [Call.operands]; exact .inr (by simpa using hx))
  have hobs : ∀ x ∈ c.args.toList, ∀ k, (σ.ev x).ref = some k → σ'.ob k = σ.ob k := fun x hx => h2 x (by simp [Call.operands]; exact .inr (by simpa using hx))
  split at h
  ·split at h
   ·rename_i hc x T ha ht
    rw [hargs x (by rw [ha]; simp)]
    have hox := hobs x (by rw [ha]; simp)
    unfold lenD at h ⊢
    split at h
    ·cases hb : memN T E.q.strs with
     | false => rw [hb] at h; exact h.elim
     | true => rw [hb, cond_true] at h; simp only [cond_true]; exact ⟨_, h, fun K' hk => hk⟩
    ·split at h
     ·exact ⟨_, h, fun K' hk => hk⟩
     ·exact h.elim
    ·split at h
     ·exact ⟨_, h, fun K' hk => hk⟩
     ·exact h.elim
    ·split at h
     ·exact ⟨_, h, fun K' hk => hk⟩
     ·exact h.elim
    ·rename_i j hj
     rw [hox j (by rw [hj]; rfl)]
     split at h
     ·split at h
      ·exact ⟨_, h, fun K' hk => hk⟩
      ·exact h.elim
     ·split at h
      ·exact ⟨_, h, fun K' hk => hk⟩
      ·exact h.elim
     ·exact h.elim
    ·exact h.elim
   ·exact h.elim
  ·rename_i hc; simp only [isQuiet, ho, hc, Bool.false_eq_true] at hq
  ·split at h
   ·rename_i x y ha
    rw [hargs x (by rw [ha]; simp), hargs y (by rw [ha]; simp)]
    unfold maxD at h ⊢
    split at h
    ·exact ⟨_, h, fun K' hk => hk⟩
    ·exact h.elim
   ·exact h.elim
  ·rename_i f hc
   rw [h1 f (by simp [Call.operands, hc])]
   unfold callD at h ⊢
   split at h
   ·rename_i g rs0 caps hcl
    have hh : hsigOf E.q g rs0 = none := by cases rs0 <;> rfl
    rw [hh] at h ⊢
    simp only at h ⊢
    split at h
    ·rename_i rs _
     obtain ⟨hent, h⟩ := z1g.1 h
     simp only [z1g] at h ⊢
     rw [zXd _ _ hargs]
     have lin : ∀ (g : FuncId) (ds : List D) (K : D → Prop), retP P g ds rs K → ∃ d, K d ∧ ∀ K' : D → Prop, K' d → retP P g ds rs K' := by
      intro g ds K h
      unfold retP at h ⊢
      split at h
      ·exact ⟨_, h.2, fun K' hk => ⟨h.1, hk⟩⟩
      ·obtain ⟨x, q1, q2⟩ := h; exact ⟨_, q2, fun K' hk => ⟨x, q1, hk⟩⟩
      ·obtain ⟨x, y, q1, q2⟩ := h; exact ⟨_, q2, fun K' hk => ⟨x, y, q1, hk⟩⟩
      ·obtain ⟨x, y, z, q1, q2⟩ := h; exact ⟨_, q2, fun K' hk => ⟨x, y, z, q1, hk⟩⟩
      ·exact h.elim
     cases hsc : rs.all Ty.scalar with
     | true =>
      rw [hsc, cond_true] at h
      simp only [cond_true]
      have ev : (zipFix E.q σ c.args.toList c.argTypes.toList).map (viewD σ') = (zipFix E.q σ c.args.toList c.argTypes.toList).map (viewD σ) := List.map_congr_left fun d hd => zXn fun k hk => by
       obtain ⟨x, hx, e⟩ := z2g hd hk
       exact hobs x hx k e
      simp only [ev]
      cases hfl : ((zipFix E.q σ c.args.toList c.argTypes.toList).map (viewD σ)).all noRef with
      | false => rw [hfl] at h; exact h.elim
      | true =>
       rw [hfl, cond_true] at h
       simp only [cond_true]
       obtain ⟨d, q1, q2⟩ := lin _ _ _ h
       exact ⟨d, q1, fun K' hk => ⟨hent, q2 (fun r => K' r σ') hk⟩⟩
     | false =>
      rw [hsc, cond_false] at h
      simp only [cond_false]
      rw [show A.quiet.q = 1 from rfl] at h ⊢
      obtain ⟨hf, h⟩ := pubs1.1 h
      obtain ⟨d, q1, q2⟩ := lin _ _ _ h
      exact ⟨d, q1, fun K' hk => ⟨hent, pubs1.2 ⟨hf, q2 (fun r => K' r σ') hk⟩⟩⟩
    ·exact h.elim
   ·exact h.elim
  ·exact h.elim
 all_goals exact h.elim
end
end Go.Proofs.YtajnbkhgnppckaaGreatDoor
/- A denotation of the program's code on plain data: what an operation does does not hang on slots that it does not look at. -/
namespace Go.Proofs.YtajnbkhgnppckaaGreatDoor
open Go.RowKit
set_option linter.unusedVariables false
set_option linter.unusedSimpArgs false
section
variable {P : Program} {E : TE} {A : Ann} {σ σ1 : St} {d : D} {o : Oper}
def St.px (σ : St) : Option (Nat × D) → St
 | none => σ
 | some (s, d) => σ.put s d
def XOk (X : Option (Nat × D)) : Prop := ∀ s d, X = some (s, d) → d.ref = none
def Keep (σ τ : St) : Prop := ∀ t, (σ.get t).ref = none → τ.get t = σ.get t
theorem Keep.refl (σ : St) : Keep σ σ := fun _ _ => rfl
theorem Keep.trans {σ τ υ : St} (h : Keep σ τ) (h' : Keep τ υ) : Keep σ υ := fun t ht => (h' t (by rw [h t ht]; exact ht)).trans (h t ht)
variable {X : Option (Nat × D)}
theorem px_ob (k : Nat) : (σ.px X).ob k = σ.ob k := by
 cases X with
 | none => rfl
 | some x => rfl
theorem z3g {f : D → D} (hf : f .undef = .undef) (hX : XOk X) (hfd : ∀ d, d.ref = none → f d = d) (h : Like σ1 (σ.px X)) : (∀ i, ((σ.map f).px X).get i = (σ1.map f).get i) ∧ ∀ k, look k (σ.map f).hp = look k (σ1.map f).hp := by
 refine ⟨fun i => ?_, fun k => ?_⟩
 ·have h1 := h.get i
  rw [St.get_map f hf, ← h1]
  cases X with
  | none => exact St.get_map f hf σ i
  | some x =>
   obtain ⟨s, d⟩ := x
   simp only [St.px, St.get_put]
   split
   ·exact (hfd d (hX s d rfl)).symm
   ·exact St.get_map f hf σ i
 ·have h2 : look k σ.hp = look k σ1.hp := (px_ob (X := X) k).symm.trans (h.hp k)
  show look k (σ.hp.map fun x => (x.1, x.2.map f)) = look k (σ1.hp.map fun x => (x.1, x.2.map f))
  rw [zK, zK, h2]
theorem zVi {k : Nat} {d : D} (h : d.ref = none) : d.kill k = d := D.kill_ne (by rw [h]; simp)
theorem px_fr {τ : St} {hp : List (Nat × HObj)} : ((⟨τ.fr, hp⟩ : St).px X).fr = (τ.px X).fr := by
 cases X <;> rfl
theorem like_of {a b : St} (hX : XOk X) (hg : ∀ i, (b.px X).get i = a.get i) (hh : ∀ k, look k b.hp = look k a.hp) : Like a (b.px X) := ⟨hg, fun k => (px_ob (X := X) k).trans (hh k)⟩
theorem get_fr {a b : St} (h : a.fr = b.fr) (i : Nat) : a.get i = b.get i := by unfold St.get; rw [h]
theorem like_mk (hX : XOk X) (h : Like σ1 (σ.px X)) (k : Nat) (ob : HObj) : Like (σ1.mk' k ob) ((σ.mk' k ob).px X) := by
 obtain ⟨h1, h2⟩ := z3g (f := D.kill k) rfl hX (fun d hd => zVi hd) h
 refine like_of hX (fun i => ?_) fun j => ?_
 ·refine Eq.trans (get_fr ?_ i) (h1 i)
  exact px_fr (τ := σ.map (D.kill k))
 ·simp only [St.mk', zd, zp, h2]
theorem zYd (hX : XOk X) (h : Like σ1 (σ.px X)) (k : Nat) (ob : HObj) : Like (σ1.setOb k ob) ((σ.setOb k ob).px X) := by
 refine like_of hX (fun i => ?_) fun j => ?_
 ·exact Eq.trans (get_fr (px_fr (τ := σ)) i) (h.get i)
 ·have h2 : look j σ.hp = look j σ1.hp := (px_ob (X := X) j).symm.trans (h.hp j)
  simp only [St.setOb, zd, zp, h2]
theorem zWi {k : Nat} {ob : HObj} {d : D} (h : d.ref = none) : pubOne k ob d = d := zyi (by rw [h]; simp)
theorem zXi (hX : XOk X) (h : Like σ1 (σ.px X)) (k : Nat) (ob : HObj) : Like (σ1.pub k ob) ((σ.pub k ob).px X) := by
 have hu : pubOne k ob .undef = .undef := by cases ob <;> rfl
 obtain ⟨h1, h2⟩ := z3g (f := pubOne k ob) hu hX (fun d hd => zWi hd) h
 refine like_of hX (fun i => ?_) fun j => ?_
 ·exact Eq.trans (get_fr (px_fr (τ := σ.map (pubOne k ob))) i) (h1 i)
 ·simp only [St.pub, zp, h2]
theorem z4g {f : D → D} (hf : f .undef = .undef) (hfd : ∀ d, d.ref = none → f d = d) (hp : List (Nat × HObj)) : Keep σ ⟨(σ.map f).fr, hp⟩ := fun t ht => by
 have : (⟨(σ.map f).fr, hp⟩ : St).get t = (σ.map f).get t := rfl
 rw [this, St.get_map f hf, hfd _ ht]
theorem keep_mk (k : Nat) (ob : HObj) : Keep σ (σ.mk' k ob) := z4g rfl (fun d hd => zVi hd) _
theorem zZd (k : Nat) (ob : HObj) : Keep σ (σ.setOb k ob) := fun _ _ => rfl
theorem zYi (k : Nat) (ob : HObj) : Keep σ (σ.pub k ob) := z4g (by cases ob <;> rfl) (fun d hd => zWi hd) _
theorem like_ob (h : Like σ1 (σ.px X)) (k : Nat) : σ1.ob k = σ.ob k := (h.hp k).symm.trans (px_ob k)
theorem z5g (h : ∀ k, σ1.ob k = σ.ob k) : ∀ n k, pickRef σ1 n k = pickRef σ n k
 | 0, k => rfl
 | n + 1, k => by
  unfold pickRef
  rw [h k]
  split
  ·split
   ·exact z5g h n _
   ·rfl
  ·split
   ·exact z5g h n _
   ·rfl
  ·rfl
theorem zZi (hX : XOk X) : ∀ (n : Nat) (σ1 σ : St) (ds : List D) (τ1 : St) (ds' : List D), Like σ1 (σ.px X) → pubs n σ1 ds = some (τ1, ds') → ∃ τ, pubs n σ ds = some (τ, ds') ∧ Like τ1 (τ.px X) ∧ Keep σ τ
 | 0, _, _, _, _, _, _, h => by cases h
 | n + 1, σ1, σ, ds, τ1, ds', hl, h => by
  unfold pubs at h ⊢
  cases hf : firstRef ds with
  | none => rw [hf] at h; injection h with h; injection h with h1 h2; subst h1 h2; exact ⟨σ, rfl, hl, .refl _⟩
  | some k0 =>
   rw [hf] at h
   simp only at h ⊢
   rw [z5g (like_ob hl), like_ob hl] at h
   split at h
   ·rename_i ob hob
    cases hfl : ob.flatB with
    | false => rw [hfl] at h; cases h
    | true =>
     rw [hfl, cond_true] at h
     simp only [cond_true]
     obtain ⟨τ, q1, q2, q3⟩ := zZi hX n _ _ _ _ _ (zXi hX hl _ ob) h
     exact ⟨τ, q1, q2, (zYi _ ob).trans q3⟩
   ·cases h
theorem zMc (hX : XOk X) {q : Nat} {ds : List D} {K K' : List D → St → Prop} (hl : Like σ1 (σ.px X)) (h : withPubs q σ1 ds K) (hK : ∀ ds' τ τ1, Like τ1 (τ.px X) → Keep σ τ → K ds' τ1 → K' ds' τ) : withPubs q σ ds K' := by
 unfold withPubs at h ⊢
 cases hp : pubs q σ1 ds with
 | none => rw [hp] at h; exact h.elim
 | some x =>
  obtain ⟨τ1, ds'⟩ := x
  rw [hp] at h
  obtain ⟨τ, q1, q2, q3⟩ := zZi hX q _ _ _ _ _ hl hp
  rw [q1]
  exact hK _ _ _ q2 q3 h
theorem zZn (hX : XOk X) (hl : Like σ1 (σ.px X)) (k off : Nat) (e : TypeId) (t : Ty) : Like (nilRow σ1 k off e t) ((nilRow σ k off e t).px X) ∧ Keep σ (nilRow σ k off e t) := by
 unfold nilRow
 rw [like_ob hl k]
 split
 ·split
  ·cases Nat.beq k (nilKey k off)
   ·exact ⟨zYd hX (like_mk hX hl _ _) _ _, (keep_mk _ _).trans (zZd _ _)⟩
   ·exact ⟨hl, .refl _⟩
  ·exact ⟨hl, .refl _⟩
 ·exact ⟨hl, .refl _⟩
theorem z0i {τ τ' : St} (ob : ∀ k, τ.ob k = τ'.ob k) : ∀ ds : List D, subPtrs τ ds = subPtrs τ' ds
 | [] => rfl
 | d :: r => by
  have ih := z0i ob r
  unfold subPtrs
  split
  ·rfl
  ·rename_i k r' e
   injection e with e1 e2
   subst e2
   rw [ob k, ih]
  ·rename_i x r' _ e
   injection e with e1 e2
   subst e2
   exact ih
theorem z6g (hX : XOk X) (ds : List D) : ∀ (l : List (Nat × (Nat × (TypeId × Ty)))) (σ1 σ : St), Like σ1 (σ.px X) → Like (nilRows ds l σ1) ((nilRows ds l σ).px X) ∧ Keep σ (nilRows ds l σ)
 | [], σ1, σ, hl => ⟨hl, .refl _⟩
 | (i, off, e, t) :: r, σ1, σ, hl => by
  unfold nilRows
  split
  ·obtain ⟨h1, h2⟩ := zZn hX hl _ off e t
   obtain ⟨h3, h4⟩ := z6g hX ds r _ _ h1
   exact ⟨h3, h2.trans h4⟩
  ·exact z6g hX ds r _ _ hl
theorem z0n (hX : XOk X) (hl : Like σ1 (σ.px X)) (k off : Nat) : Like (pubField σ1 k off) ((pubField σ k off).px X) ∧ Keep σ (pubField σ k off) := by
 unfold pubField
 rw [like_ob hl k]
 split
 ·split
  ·rename_i j _
   rw [like_ob hl j]
   split
   ·rename_i ob _
    cases ob.flatB
    ·exact ⟨hl, .refl _⟩
    ·exact ⟨zXi hX hl _ _, zYi _ _⟩
   ·exact ⟨hl, .refl _⟩
  ·exact ⟨hl, .refl _⟩
 ·exact ⟨hl, .refl _⟩
theorem z7g (hX : XOk X) (ds : List D) : ∀ (l : List (Nat × Nat)) (σ1 σ : St), Like σ1 (σ.px X) → Like (pubFields ds l σ1) ((pubFields ds l σ).px X) ∧ Keep σ (pubFields ds l σ)
 | [], σ1, σ, hl => ⟨hl, .refl _⟩
 | (i, off) :: r, σ1, σ, hl => by
  unfold pubFields
  split
  ·obtain ⟨h1, h2⟩ := z0n hX hl _ off
   obtain ⟨h3, h4⟩ := z7g hX ds r _ _ h1
   exact ⟨h3, h2.trans h4⟩
  ·exact z7g hX ds r _ _ hl
theorem z1i {ks : List Nat} {d : D} (h : d.ref = none) : killAll ks d = d := by unfold killAll; rw [h]
theorem z2i {α : Type} (k : Nat) : ∀ (l l' : List (Nat × α)), look k (l ++ l') = match look k l with | some o => some o | none => look k l'
 | [], l' => rfl
 | (i, x) :: r, l' => by
  rw [List.cons_append, zd, zd]
  split
  ·rfl
  ·exact z2i k r l'
theorem z8g {α : Type} (ks : List Nat) (k : Nat) : ∀ (l : List (Nat × α)), look k (dropAll ks l) = if memN k ks = true then none else look k l
 | [] => by simp [dropAll, look]
 | (i, x) :: r => by
  unfold dropAll
  cases hm : memN i ks with
  | true =>
   rw [cond_true, z8g ks k r, zd]
   by_cases e : i = k
   ·subst e; rw [if_pos hm, if_pos hm]
   ·rw [if_neg e]
  | false =>
   rw [cond_false, zd, zd, z8g ks k r]
   by_cases e : i = k
   ·subst e; rw [if_pos rfl, if_pos rfl, if_neg (by rw [hm]; simp)]
   ·rw [if_neg e, if_neg e]
theorem z1n (hX : XOk X) (hl : Like σ1 (σ.px X)) (ρ : List (Nat × Nat)) (dst : Nat) (h' : List (Nat × HObj)) : Like (σ1.after ρ dst h') ((σ.after ρ dst h').px X) ∧ Keep σ (σ.after ρ dst h') := by
 refine ⟨?_, ?_⟩
 ·unfold St.after
  simp only
  generalize (((ρ.filter fun x => !stabK x.2 || !(memN x.2 (h'.map (·.1)))).map (·.1)) ++ ((h'.map fun x => (x.1, backKey (inv ρ) dst x.1)).filter fun x => !(memN x.1 (ρ.map (·.2)))).map (·.2)) = dead
  obtain ⟨h1, h2⟩ := z3g (f := killAll dead) rfl hX (fun d hd => z1i hd) hl
  refine like_of hX (fun i => ?_) fun j => ?_
  ·exact Eq.trans (get_fr (px_fr (τ := σ.map (killAll dead))) i) (h1 i)
  ·simp only [z2i, z8g]
   have := h2 j
   simp only [St.map] at this
   rw [this]
 ·exact z4g rfl (fun d hd => z1i hd) _
theorem z3i : ∀ {ts : List Ty} {K K' : List D → Prop}, (∀ xs, K xs → K' xs) → exH ts K → exH ts K'
 | [], K, K', hk, h => hk _ h
 | t :: ts, K, K', hk, h => by
  obtain ⟨x, h⟩ := h
  exact ⟨x, z3i (fun xs => hk _) h⟩
theorem z2n (hX : XOk X) (hl : Like σ1 (σ.px X)) {f : FuncId} {hs : HSig} {dst : Nat} {ds0 caps : List D} {K K' : D → St → Prop} (h : callH P A f hs dst ds0 caps σ1 K) (hK : ∀ d τ τ1, Like τ1 (τ.px X) → Keep σ τ → K d τ1 → K' d τ) : callH P A f hs dst ds0 caps σ K' := by
 unfold callH at h ⊢
 cases hb : caps.all noRef && ds0.all lowRef with
 | false => rw [hb] at h; exact h.elim
 | true =>
  rw [hb, cond_true] at h
  simp only [cond_true] at h ⊢
  obtain ⟨a1, a2⟩ := z7g hX ds0 hs.datas _ _ hl
  rw [z0i (like_ob a1) ds0] at h
  obtain ⟨b1, b2⟩ := z6g hX (ds0 ++ subPtrs (pubFields ds0 hs.datas σ) ds0) hs.nils _ _ a1
  generalize nilRows (ds0 ++ subPtrs (pubFields ds0 hs.datas σ) ds0) hs.nils (pubFields ds0 hs.datas σ1) = υ1 at h b1
  generalize nilRows (ds0 ++ subPtrs (pubFields ds0 hs.datas σ) ds0) hs.nils (pubFields ds0 hs.datas σ) = υ at b1 b2 ⊢
  have ho : υ1.ob = υ.ob := funext (like_ob b1)
  rw [ho] at h
  refine z3i (fun xs h => ?_) h
  split
  ·rename_i r h' hr
   rw [hr] at h
   simp only at h
   have hch : ∀ a b : St, hChk a = hChk b := fun _ _ => rfl
   rw [hch υ1 υ] at h
   cases hc : hChk υ (numb υ.ob (direct ds0) (reach υ.ob 400 [] ds0) 0 0) dst h' with
   | false => rw [hc] at h; exact h.elim
   | true =>
    rw [hc, cond_true] at h
    rw [cond_true]
    obtain ⟨c1, c2⟩ := z1n hX b1 (numb υ.ob (direct ds0) (reach υ.ob 400 [] ds0) 0 0) dst h'
    exact ⟨h.1, hK _ _ _ c1 ((a2.trans b2).trans c2) h.2⟩
  ·rename_i hr
   rw [hr] at h
   exact h
theorem z3n {op : BinOp} {b : Bool} {K K' : D → Prop} (hk : ∀ d, K d → K' d) (h : eqK op b K) : eqK op b K' := by
 unfold eqK at h ⊢
 split at h
 ·exact hk _ h
 ·exact hk _ h
 ·exact h.elim
theorem z9g (h : ∀ k, σ1.ob k = σ.ob k) (k : Nat) (t : Ty) (d : D) : srcOf σ1 k t d = srcOf σ k t d := by
 cases d <;> simp only [srcOf, h]
theorem z4n {τ τ' : St} (ob : ∀ k, τ.ob k = τ'.ob k) {x : D} : flagNow τ x = flagNow τ' x := by
 unfold flagNow
 cases x with
 | ptr k off => simp only [ob k]
 | _ => rfl
theorem z5n {b : Bool} {new : List D} {K K' : List D → Prop} (hm : ∀ new, K new → K' new) (h : fixN b new K) : fixN b new K' := by
 unfold fixN at h ⊢
 split at h
 ·split at h
  ·exact ⟨h.1, hm _ h.2⟩
  ·exact hm _ h
 ·exact hm _ h
theorem z6n (hX : XOk X) (hl : Like σ1 (σ.px X)) (hx : ∀ s d, X = some (s, d) → Operand.tmp s ∉ o.op.operands) (hq : isQuiet E A o = false) {K K' : D → St → Prop} (h : opD P E A o σ1 K)
  (hK : ∀ d τ τ1, Like τ1 (τ.px X) → Keep σ τ → K d τ1 → K' d τ) : opD P E A o σ K' := by
 have ev0 : ∀ (a b : St), Like a (b.px X) → ∀ x ∈ o.op.operands, a.ev x = b.ev x := fun a b hab x hxo => by
  cases x with
  | tmp t =>
   show a.get t = b.get t
   rw [← hab.get]
   cases X with
   | none => rfl
   | some y =>
    obtain ⟨s, d⟩ := y
    simp only [St.px, St.get_put]
    rw [if_neg]
    intro e; subst e
    exact hx _ _ rfl hxo
  | _ => rfl
 have ev := ev0 σ1 σ hl
 have ob := like_ob hl
 unfold opD at h ⊢
 cases ho : o.op <;> rw [ho] at h ev ev0 <;> simp only [Op.operands] at h ev ev0 ⊢
 case move x =>
  rw [ev x (by simp)] at h
  unfold movD at h ⊢
  split at h
  ·split at h
   ·split at h
    ·exact hK _ _ _ (like_mk hX hl _ _) (keep_mk _ _) h
    ·exact hK _ _ _ hl (.refl _) h
   ·exact hK _ _ _ hl (.refl _) h
  ·exact hK _ _ _ hl (.refl _) h
 case assign x =>
  rw [ev x (by simp)] at h
  unfold movD at h ⊢
  split at h
  ·split at h
   ·split at h
    ·exact hK _ _ _ (like_mk hX hl _ _) (keep_mk _ _) h
    ·exact hK _ _ _ hl (.refl _) h
   ·exact hK _ _ _ hl (.refl _) h
  ·exact hK _ _ _ hl (.refl _) h
 case alloc T =>
  unfold allocD at h ⊢
  split at h
  ·split at h
   ·exact hK _ _ _ (like_mk hX hl _ _) (keep_mk _ _) h
   ·exact hK _ _ _ hl (.refl _) h
  ·exact h.elim
 case box T x =>
  rw [ev x (by simp)] at h
  unfold boxD at h ⊢
  rw [zWd fun k _ => ob k] at h
  split at h
  ·rename_i cs _
   split at h
   ·rename_i k _
    cases hb : cs.any (hasRef k) with
    | true => rw [hb] at h; exact h.elim
    | false =>
     rw [hb, cond_false] at h
     exact hK _ _ _ (like_mk hX hl _ _) (keep_mk _ _) h
   ·exact zMc hX hl h fun ds' τ τ1 q1 q2 q3 => hK _ _ _ q1 q2 q3
  ·exact h.elim
 case build T parts =>
  unfold buildD at h ⊢
  split at h
  ·rename_i zs pf _ _
   have hp : ∀ x ∈ parts.toList, x.2 ∈ (parts.toList.map (·.2)).toArray := fun x hx => by simp only [List.mem_toArray, List.mem_map]; exact ⟨x, hx, rfl⟩
   rw [zLc (σ' := σ1) (σ := σ) parts.toList zs (fun x hx => ev x.2 (hp x hx)) fun x hx k _ => ob k] at h
   split at h
   ·cases hb : memN T E.vals && ownVal o.dst with
    | true =>
     rw [hb, cond_true] at h
     exact hK _ _ _ (like_mk hX hl _ _) (keep_mk _ _) h
    | false =>
     rw [hb, cond_false] at h
     exact zMc hX hl h fun ds' τ τ1 q1 q2 q3 => hK _ _ _ q1 q2 q3
   ·exact h.elim
  ·exact h.elim
 case buildSlice T len parts =>
  unfold buildSliceD at h ⊢
  split at h
  ·rename_i e t _
   cases hb : room t len && Nat.ble (len * t.size) 16777216 with
   | false => rw [hb] at h; exact h.elim
   | true =>
    rw [hb, cond_true] at h
    rw [cond_true]
    have hp : ∀ x ∈ parts.toList, x.2 ∈ (parts.toList.map (·.2)).toArray := fun x hx => by simp only [List.mem_toArray, List.mem_map]; exact ⟨x, hx, rfl⟩
    rw [zLc (σ' := σ1) (σ := σ) parts.toList _ (fun x hx => ev x.2 (hp x hx)) fun x hx k _ => ob k] at h
    split at h
    ·refine zMc hX hl h fun ds' τ τ1 q1 q2 q3 => ?_
     split at q3
     ·split at q3
      ·exact hK _ _ _ (like_mk hX q1 _ _) (q2.trans (keep_mk _ _)) q3
      ·exact hK _ _ _ q1 q2 q3
     ·exact q3.elim
    ·exact h.elim
  ·exact h.elim
 case store T x y =>
  rw [ev x (by simp), ev y (by simp)] at h
  unfold storeD at h ⊢
  split at h
  ·rename_i _ zs _
   rw [zWd fun k _ => ob k] at h
   split at h
   ·exact h.elim
   ·rename_i new _
    rw [z4n ob] at h
    refine z5n (fun new h => ?_) h
    cases hb : Nat.beq new.length zs.length && new.all isCell with
    | false => rw [hb] at h; exact h.elim
    | true =>
     rw [hb, cond_true] at h
     rw [cond_true]
     split at h
     ·rename_i k off _
      rw [ob k] at h
      split at h
      ·rename_i ds _
       cases hb2 : Nat.ble (off + new.length) ds.length with
       | false => rw [hb2] at h; exact h.elim
       | true => rw [hb2, cond_true] at h; exact hK _ _ _ (zYd hX hl _ _) (zZd _ _) h
      ·exact h.elim
     ·rename_i k sz i off _
      refine zMc hX hl h fun ds' τ τ1 q1 q2 q3 => ?_
      rw [like_ob q1] at q3
      split at q3
      ·rename_i e t xs _
       cases hb2 : Nat.beq sz t.size with
       | false => rw [hb2] at q3; exact q3.elim
       | true =>
        rw [hb2, cond_true] at q3
        rw [cond_true]
        split at q3
        ·cases hb3 : Nat.ble (off + ds'.length) t.size with
         | false => rw [hb3] at q3; exact q3.elim
         | true => rw [hb3, cond_true] at q3; exact hK _ _ _ (zYd hX q1 _ _) (q2.trans (zZd _ _)) q3
        ·exact q3.elim
      ·exact q3.elim
     ·exact h.elim
  ·exact h.elim
 case binOp op T x y T' =>
  rw [ev x (by simp), ev y (by simp)] at h
  have hE : ∀ {op : BinOp} {b : Bool}, eqK op b (fun d => K d σ1) → eqK op b fun d => K' d σ := fun h => z3n (fun d hd => hK _ _ _ hl (.refl _) hd) h
  unfold bin2D at h ⊢
  split at h
  ·split at h
   ·split at h
    ·exact hE h
    ·exact h.elim
   ·exact h.elim
  ·cases hb : E.nilq && isSlT E T with
   | false => rw [hb] at h; exact h.elim
   | true => rw [hb, cond_true] at h; rw [cond_true]; exact hE h
  ·cases hb : E.nilq && isSlT E T with
   | false => rw [hb] at h; exact h.elim
   | true => rw [hb, cond_true] at h; rw [cond_true]; exact fun b hb => hE (h b hb)
  ·cases hb : E.nilq && isSlT E T with
   | false => rw [hb] at h; exact h.elim
   | true => rw [hb, cond_true] at h; rw [cond_true]; exact hE h
  ·rename_i k _ _
   rw [ob k] at h
   split at h
   ·cases hb : E.nilq && isSlT E T with
    | false => rw [hb] at h; exact h.elim
    | true => rw [hb, cond_true] at h; rw [cond_true]; exact fun b hb => hE (h b hb)
   ·exact h.elim
  ·have hk : ∀ d, K d σ1 → K' d σ := fun d hd => hK _ _ _ hl (.refl _) hd
   unfold binD at h ⊢
   split at h
   ·split at h <;> first | exact h.elim | exact hk _ h | exact ⟨h.1, hk _ h.2⟩
   ·split at h <;> first | exact h.elim | exact hk _ h
   ·split at h <;> first | exact h.elim | exact hk _ h | exact ⟨h.1, hk _ h.2⟩
   ·cases hb : memN T E.bools with
    | false => rw [hb] at h; exact h.elim
    | true =>
     rw [hb, cond_true] at h
     simp only [cond_true]
     split at h <;> first | exact h.elim | exact hk _ h
   ·exact h.elim
 case makeSlice T l c =>
  rw [ev l (by simp), ev c (by simp)] at h
  unfold makeSliceD at h ⊢
  split at h
  ·split at h
   ·obtain ⟨g1, g2, g3, h⟩ := h
    refine ⟨g1, g2, g3, ?_⟩
    split at h
    ·exact hK _ _ _ (like_mk hX hl _ _) (keep_mk _ _) h
    ·exact hK _ _ _ hl (.refl _) h
   ·exact h.elim
  ·exact h.elim
 case makeMap T r =>
  cases r with
  | some _ => exact h.elim
  | none =>
   simp only at h ⊢
   unfold makeMapD at h ⊢
   split at h
   ·split at h
    ·exact hK _ _ _ (like_mk hX hl _ _) (keep_mk _ _) h
    ·exact hK _ _ _ hl (.refl _) h
   ·exact h.elim
 case mapUpdate T m x y =>
  rw [ev m (by simp), ev x (by simp), ev y (by simp)] at h
  unfold mapUpdateD at h ⊢
  split at h
  ·rename_i kt0 vt0 j _ _
   refine zMc hX hl h fun ds' τ τ1 q1 q2 q3 => ?_
   rw [like_ob q1] at q3
   split at q3
   ·rename_i kt vt es _
    cases hb : decide (kt = kt0) && decide (vt = vt0) with
    | false => rw [hb] at q3; exact q3.elim
    | true =>
     rw [hb, cond_true] at q3
     rw [cond_true]
     split at q3
     ·exact ⟨q3.1, hK _ _ _ (zYd hX q1 _ _) (q2.trans (zZd _ _)) q3.2⟩
     ·exact q3.elim
   ·exact q3.elim
  ·exact h.elim
 case call c =>
  have hargs : ∀ (a b : St), Like a (b.px X) → ∀ x ∈ c.args.toList, a.ev x = b.ev x := fun a b hab x hx => ev0 a b hab x (by simp [Call.operands]; exact .inr (by simpa using hx))
  split at h
  ·rename_i hc; simp only [isQuiet, ho, hc, Bool.true_eq_false] at hq
  ·split at h
   ·rename_i hc x y T T' ha ht
    rw [hargs σ1 σ hl x (by rw [ha]; simp)] at h
    have hy := fun a b hab => hargs a b hab y (by rw [ha]; simp)
    unfold appendD at h ⊢
    split at h
    ·rename_i e t' _
     cases hT : Nat.beq T T' with
     | false => rw [hT] at h; exact h.elim
     | true =>
      rw [hT, cond_true] at h
      rw [cond_true]
      split at h
      ·rename_i k _
       rw [ob k] at h
       split at h
       ·rename_i e' t xs _
        cases hb : Nat.beq e e' && Nat.beq t'.size t.size && Nat.beq t'.bytes t.bytes && !stabK k with
        | false => rw [hb] at h; exact h.elim
        | true =>
         rw [hb, cond_true] at h
         rw [cond_true]
         rw [hy σ1 σ hl, z9g ob] at h
         split at h
         ·exact ⟨h.1, hK _ _ _ (like_mk hX hl _ _) (keep_mk _ _) h.2⟩
         ·exact h.elim
       ·exact h.elim
      ·rename_i k _
       rw [ob k] at h
       split at h
       ·rename_i e' t xs _
        cases hb : Nat.beq e e' && Nat.beq t'.size t.size && Nat.beq t'.bytes t.bytes && !stabK k with
        | false => rw [hb] at h; exact h.elim
        | true =>
         rw [hb, cond_true] at h
         rw [cond_true]
         rw [hy σ1 σ hl, z9g ob] at h
         split at h
         ·rename_i ys _
          cases hz : Nat.blt 0 ys.length with
          | false => rw [hz] at h; exact h.elim
          | true =>
           rw [hz, cond_true] at h
           rw [cond_true]
           exact ⟨h.1, hK _ _ _ (like_mk hX hl _ _) (keep_mk _ _) h.2⟩
         ·exact h.elim
       ·exact h.elim
      ·split at h
       ·rename_i k _
        have hl2 := like_mk hX hl k (.row e t' [])
        rw [hy _ _ hl2, z9g (like_ob hl2)] at h
        split at h
        ·exact ⟨h.1, hK _ _ _ (like_mk hX hl2 _ _) ((keep_mk _ _).trans (keep_mk _ _)) h.2⟩
        ·exact h.elim
       ·exact h.elim
      ·exact h.elim
    ·exact h.elim
   ·exact h.elim
  ·rename_i hc; simp only [isQuiet, ho, hc, Bool.true_eq_false] at hq
  ·rename_i f hc
   rw [ev f (by simp [Call.operands, hc])] at h
   cases f with
   | func g =>
    simp only [isQuiet, ho, hc] at hq
    cases hg : look g E.hsig with
    | none => rw [hg] at hq; cases hq
    | some hs =>
     unfold callD at h ⊢
     have e1 : ∀ τ : St, τ.ev (.func g) = .clo g none [] := fun _ => rfl
     rw [e1] at h ⊢
     simp only [hsigOf, hg] at h ⊢
     rw [zipH_eq (σ' := σ1) (σ := σ) _ _ (hargs σ1 σ hl)] at h
     exact z2n hX hl h hK
   | _ => simp only [isQuiet, ho, hc, Bool.true_eq_false] at hq
  ·exact h.elim
 all_goals first | exact h.elim | (simp only [isQuiet, ho, Bool.true_eq_false] at hq)
end
end Go.Proofs.YtajnbkhgnppckaaGreatDoor
/- A denotation of the program's code on plain data: regions, of any order. -/
namespace Go.Proofs.YtajnbkhgnppckaaGreatDoor
open Go.RowKit
set_option linter.unusedVariables false
set_option linter.unusedSimpArgs false
section
variable {P : Program} {E : TE} {A : Ann} {b0 : Base} {w w' : World} {S S' : Nat → Prop} {pl pl' : Nat → Value} {N : Nat} {σ σ' : St} {a : Act} {v : Value} {d : D} {o : Oper}
theorem zah {all : List Oper} {yes no : St → Prop} (h : guardD all o σ yes no) (σ2 : St) (hl : Like σ σ2) (m : Mt P b0 N σ2 a w) :
  (Region.wanted o (yielded all.toArray a.tmps) = true ∧ ∃ σ', Like σ2 σ' ∧ yes σ') ∨ (Region.wanted o (yielded all.toArray a.tmps) = false ∧ ∃ σ', Like σ2 σ' ∧ no σ') := by
 unfold guardD at h
 split at h
 ·rename_i hg
  exact .inl ⟨by unfold Region.wanted; rw [hg], σ, hl.symm, h⟩
 ·rename_i j want hg
  split at h
  ·rename_i s hs
   split at h
   ·rename_i b hb
    obtain ⟨S, pl, m⟩ := m
    have hv : a.tmps.getD s undef = .bool b := by
     have := m.fr s
     rw [hl.get, hb] at this
     exact (this.flat (d := .bool b) rfl).bool_inv
    have hy : yielded all.toArray a.tmps j = some b := by
     unfold yielded
     unfold gslot at hs
     split at hs
     ·rename_i o' ho'
      have hlt : s < a.tmps.size := by
       rcases Nat.lt_or_ge s a.tmps.size with h | h
       ·exact h
       ·rw [Array.getD_eq_getD_getElem?, Array.getElem?_eq_none h] at hv; cases hv
      rw [Array.getD_eq_getD_getElem?, Array.getElem?_eq_getElem hlt] at hv
      simp only [List.getElem?_toArray, ho', Option.bind_some, hs, Array.getElem?_eq_getElem hlt]
      have hv : a.tmps[s] = .bool b := hv
      rw [hv]
     ·cases hs
    have hw : Region.wanted o (yielded all.toArray a.tmps) = (b == want) := by
     unfold Region.wanted
     rw [hg]
     simp only [hy]
     cases b <;> cases want <;> rfl
    rw [hw]
    have hp : Like σ2 (σ.put s (.bool b)) := hl.symm.trans (zVd hb)
    cases b <;> cases want
    ·exact .inl ⟨rfl, _, hp, h⟩
    ·exact .inr ⟨rfl, _, hp, h⟩
    ·exact .inr ⟨rfl, _, hp, h⟩
    ·exact .inl ⟨rfl, _, hp, h⟩
   ·rename_i hb
    obtain ⟨S, pl, m⟩ := m
    have hv : a.tmps.getD s undef = .tuple #[] := by
     have := m.fr s
     rw [hl.get, hb] at this
     obtain ⟨vs, hv, hl2, _⟩ := (this.flat (d := .tup []) rfl).tup_inv
     obtain rfl : vs = #[] := Array.eq_empty_of_size_eq_zero (by simpa using hl2)
     exact hv
    refine .inr ⟨?_, σ, hl.symm, h⟩
    have hy : yielded all.toArray a.tmps j = none := by
     unfold yielded
     unfold gslot at hs
     split at hs
     ·rename_i o' ho'
      simp only [List.getElem?_toArray, ho', Option.bind_some, hs]
      rw [Array.getD_eq_getD_getElem?] at hv
      cases hg' : a.tmps[s]? with
      | none => rfl
      | some u => rw [hg'] at hv; have hv : u = .tuple #[] := hv; rw [hv]
     ·cases hs
    unfold Region.wanted
    rw [hg]
    simp only [hy]
    rfl
   ·exact h.elim
  ·exact h.elim
theorem rd_skip : Rd w S pl undef (.tup []) := Rp.rd (.tup #[] [] rfl fun i d h => by simp at h)
theorem z0d {n : Nat} : ∀ {l : List Oper}, dstOk n l = true → ∀ o ∈ l, ∀ i, o.dst = some i → i < n
 | [], _, o, ho, _, _ => by cases ho
 | x :: l, h, o, ho, i, hi => by
  simp only [dstOk, Bool.and_eq_true] at h
  rcases List.mem_cons.1 ho with rfl | ho
  ·have := h.1
   rw [hi] at this
   exact Nat.lt_of_succ_le (Nat.le_of_ble_eq_true this)
  ·exact z0d h.2 o ho i hi
theorem ops_wp (F : Facts P E) {all : List Oper} {K : St → Prop} {Q : Exit → Act → World → Prop} (hQ : ∀ σ a w, K σ → Mt P b0 A.n σ a w → Q .normal a w) :
  ∀ (l : List Oper) (σ : St) (a : Act) (w : World), dstOk A.n l = true → opsD P E A all l σ K → Mt P b0 A.n σ a w → wpList P all.toArray Q l a w
 | [], σ, a, w, _, h, m => hQ σ a w h m
 | o :: r, σ, a, w, hd, h, m => by
  simp only [dstOk, Bool.and_eq_true] at hd
  have hdst : ∀ i, o.dst = some i → i < A.n := fun i hi => z0d (l := [o]) (by simp [dstOk, hd.1]) o (by simp) i hi
  unfold wpList
  rcases zah (a := a) (w := w) h σ (.refl σ) m with ⟨hw, σ', hl, hy⟩ | ⟨hw, σ', hl, hn⟩
  ·rw [if_pos hw]
   left
   obtain ⟨S, pl, m'⟩ := m.like hl
   exact op_wp F m' hy fun d σ'' v w' S' pl' hk hm hv => ops_wp F hQ r _ _ _ hd.2 hk ⟨S', pl', hm.putO hdst hv⟩
  ·rw [if_neg (by rw [hw]; simp)]
   obtain ⟨S, pl, m'⟩ := m.like hl
   exact ops_wp F hQ r _ _ _ hd.2 hn ⟨S, pl, m'.putO hdst rd_skip⟩
def YieldsA (P : Program) (E : TE) (A : Ann) (all : List Oper) (o : Oper) (d : D) (σ : St) : Prop :=
 (wantedA all o σ = some true ∧ ∀ K' : D → St → Prop, K' d σ → opD P E.q A.quiet o σ K') ∨ (wantedA all o σ = some false ∧ d = .tup [])
def LikeK (K : St → Prop) : Prop := ∀ σ σ', Like σ σ' → K σ → K σ'
theorem z4i {all : List Oper} (h : Like σ σ') : wantedA all o σ' = wantedA all o σ := by
 unfold wantedA
 split
 ·rfl
 ·split
  ·rw [h.get]
  ·rfl
theorem zPb (h : Like σ σ') : EvEq o σ σ' := ⟨fun x _ => h.ev x, fun _ _ k _ => h.ob k⟩
theorem YieldsA.same {all : List Oper} (hq : isQuiet E A o = true) (h : YieldsA P E A all o d σ) (he : EvEq o σ σ') (hw : wantedA all o σ' = wantedA all o σ) : YieldsA P E A all o d σ' := by
 rcases h with ⟨h1, h2⟩ | ⟨h1, h2⟩
 ·left
  refine ⟨hw.trans h1, fun K' hk => ?_⟩
  obtain ⟨d', e, h'⟩ := zOb (K := fun d' => d' = d) hq he (h2 (fun d' _ => d' = d) rfl)
  subst e
  exact h' K' hk
 ·exact .inr ⟨hw.trans h1, h2⟩
theorem YieldsA.like {all : List Oper} (hq : isQuiet E A o = true) (h : YieldsA P E A all o d σ) (hl : Like σ σ') : YieldsA P E A all o d σ' := h.same hq (zPb hl) (z4i hl)
theorem z5i (σ : St) {x y : Option Nat} (d e : D) (h : ∀ i, x = some i → y ≠ some i) : Like ((σ.putO x d).putO y e) ((σ.putO y e).putO x d) := by
 cases x with
 | none => exact .refl _
 | some i =>
  cases y with
  | none => exact .refl _
  | some j =>
   have hne : i ≠ j := fun e => h i rfl (by rw [e])
   refine ⟨fun k => ?_, fun _ => rfl⟩
   simp only [St.putO, St.get_put]
   split <;> split <;> first | rfl | omega
theorem zbh {all : List Oper} {x : Option Nat} {d : D} (h : ∀ i, x = some i → i ∉ o.looksAt all.toArray) (hob : True) : EvEq o σ (σ.putO x d) ∧ wantedA all o (σ.putO x d) = wantedA all o σ := by
 cases x with
 | none => exact ⟨⟨fun _ _ => rfl, fun _ _ _ _ => rfl⟩, rfl⟩
 | some i =>
  have hi := h i rfl
  refine ⟨⟨fun x hx => ?_, fun _ _ _ _ => rfl⟩, ?_⟩
  ·cases x with
   | tmp t =>
    show (σ.put i d).get t = σ.get t
    rw [St.get_put, if_neg]
    intro e
    subst e
    exact hi (List.mem_append_left _ (List.mem_filterMap.2 ⟨.tmp i, by simpa using hx, rfl⟩))
   | _ => rfl
  ·unfold wantedA
   split
   ·rfl
   ·rename_i j want hg
    split
    ·rename_i s hs
     rw [show (σ.putO (some i) d).get s = σ.get s from ?_]
     show (σ.put i d).get s = σ.get s
     rw [St.get_put, if_neg]
     intro e
     subst e
     refine hi ?_
     unfold gslot at hs
     split at hs
     ·rename_i o' ho'
      simp [Oper.looksAt, hg, ho', hs]
     ·cases hs
    ·rfl
theorem guardA {all : List Oper} {yes no : St → Prop} (h : guardD all o σ yes no) : (wantedA all o σ = some true ∧ ∃ σ', Like σ σ' ∧ yes σ') ∨ (wantedA all o σ = some false ∧ ∃ σ', Like σ σ' ∧ no σ') := by
 unfold guardD at h
 unfold wantedA
 split at h
 ·rename_i e; exact .inl ⟨rfl, σ, .refl _, h⟩
 ·rename_i j want e
  split at h
  ·rename_i s e2
   split at h
   ·rename_i b e3
    have hp := zVd e3
    cases b <;> cases want
    ·exact .inl ⟨rfl, _, hp, h⟩
    ·exact .inr ⟨rfl, _, hp, h⟩
    ·exact .inr ⟨rfl, _, hp, h⟩
    ·exact .inl ⟨rfl, _, hp, h⟩
   ·exact .inr ⟨rfl, σ, .refl _, h⟩
   ·exact h.elim
  ·exact h.elim
end
end Go.Proofs.YtajnbkhgnppckaaGreatDoor
/- A denotation of the program's code on plain data: a region that draws its order does what one order says. -/
namespace Go.Proofs.YtajnbkhgnppckaaGreatDoor
open Go.RowKit
set_option linter.unusedVariables false
set_option linter.unusedSimpArgs false
section
variable {P : Program} {E : TE} {A : Ann} {b0 : Base} {w w' : World} {S S' : Nat → Prop} {pl pl' : Nat → Value} {N : Nat} {σ σ' : St} {a : Act} {v : Value} {d : D} {o : Oper}
def anyE (P : Program) (E : TE) (A : Ann) (all : List Oper) (K : St → Prop) : Nat → Array Bool → St → Prop
 | 0, listed, σ => Region.ready .any all.toArray listed = [] ∧ K σ
 | fuel + 1, listed, σ => (Region.ready .any all.toArray listed = [] → K σ) ∧ ∀ i ∈ Region.ready .any all.toArray listed, atD all i fun o => runE P E A all o σ (anyE P E A all K fuel (listed.setIfInBounds i true))
theorem Facts.q (F : Facts P E) : Facts P E.q where
 zs := F.zs
 sl := F.sl
 fld := F.fld
 strs := F.strs
 ints := F.ints
 bools := F.bools
 sig := F.sig
 hsig := fun f hs h => by cases h
 arr := F.arr
 mps := F.mps
 sts := F.sts
 mixed := F.mixed
theorem anyE_wp (F : Facts P E) {all : List Oper} {K : St → Prop} {Q : Exit → Act → World → Prop} (hd : dstOk A.n all = true) (hQ : ∀ σ a w, K σ → Mt P b0 A.n σ a w → Q .normal a w) :
  ∀ (fuel : Nat) (listed : Array Bool) (σ : St) (a : Act) (w : World), anyE P E A all K fuel listed σ → Mt P b0 A.n σ a w → wpAny P .any all.toArray Q fuel listed a w
 | 0, _, σ, a, w, h, m => ⟨h.1, hQ _ _ _ h.2 m⟩
 | fuel + 1, listed, σ, a, w, h, m => ⟨fun h0 => hQ _ _ _ (h.1 h0) m, fun i hi => by
  have h1 := h.2 i hi
  unfold atD at h1
  unfold wpOp
  simp only [List.getElem?_toArray]
  cases ho : all[i]? with
  | none => rw [ho] at h1; exact h1.elim
  | some o =>
   rw [ho] at h1
   simp only at h1 ⊢
   have hdst : ∀ i, o.dst = some i → i < A.n := z0d hd o (List.mem_of_getElem? ho)
   unfold runE at h1
   split at h1
   ·rename_i hqt
    unfold runQ at h1
    rcases zah h1 σ (.refl σ) m with ⟨hw, σ', hl, hy⟩ | ⟨hw, σ', hl, hn⟩
    ·rw [if_pos hw]
     left
     obtain ⟨S, pl, m'⟩ := m.like hl
     obtain ⟨d, q1, q2⟩ := zOb hqt (zPb (.refl σ')) hy
     refine op_wp F.q m' (q2 (fun d' τ => d' = d ∧ τ = σ') ⟨rfl, rfl⟩) fun d' τ v w' S' pl' hk hm hv => ?_
     obtain ⟨e1, e2⟩ := hk
     subst e1 e2
     exact anyE_wp F hd hQ fuel _ _ _ _ q1 ⟨S', pl', hm.putO hdst hv⟩
    ·rw [if_neg (by rw [hw]; simp)]
     obtain ⟨S, pl, m'⟩ := m.like hl
     exact anyE_wp F hd hQ fuel _ _ _ _ hn ⟨S, pl, m'.putO hdst rd_skip⟩
   ·unfold runL at h1
    rcases zah h1 σ (.refl σ) m with ⟨hw, σ', hl, hy⟩ | ⟨hw, σ', hl, hn⟩
    ·rw [if_pos hw]
     left
     obtain ⟨S, pl, m'⟩ := m.like hl
     refine op_wp F m' hy fun d' τ v w' S' pl' hk hm hv => ?_
     exact anyE_wp F hd hQ fuel _ _ _ _ hk ⟨S', pl', hm.putO hdst hv⟩
    ·rw [if_neg (by rw [hw]; simp)]
     obtain ⟨S, pl, m'⟩ := m.like hl
     exact anyE_wp F hd hQ fuel _ _ _ _ hn ⟨S, pl, m'.putO hdst rd_skip⟩⟩
theorem z1d {all : List Oper} {yes no : St → Prop} {b : Bool} (h : wantedA all o σ = some b) (hy : b = true → ∀ σ', Like σ σ' → yes σ') (hn : b = false → ∀ σ', Like σ σ' → no σ') : guardD all o σ yes no := by
 unfold wantedA at h
 unfold guardD
 split at h
 ·injection h with h; exact hy h.symm σ (.refl σ)
 ·rename_i j want e
  split at h
  ·rename_i s e2
   split at h
   ·rename_i c e3
    injection h with h
    have hp := zVd e3
    cases c <;> cases want <;> subst h
    ·exact hy rfl _ hp
    ·exact hn rfl _ hp
    ·exact hn rfl _ hp
    ·exact hy rfl _ hp
   ·injection h with h; exact hn h.symm σ (.refl σ)
   ·cases h
  ·cases h
theorem zch {all : List Oper} (hq : isQuiet E A o = true) {K : St → Prop} (hK : LikeK K) (h : runQ P E A all o σ K) : ∃ d, YieldsA P E A all o d σ ∧ K (σ.putO o.dst d) := by
 rcases guardA h with ⟨hw, σ', hl, hy⟩ | ⟨hw, σ', hl, hn⟩
 ·obtain ⟨d, q1, q2⟩ := zOb hq (zPb hl.symm) hy
  exact ⟨d, .inl ⟨hw, q2⟩, hK _ _ (hl.symm.putO _ _) q1⟩
 ·exact ⟨.tup [], .inr ⟨hw, rfl⟩, hK _ _ (hl.symm.putO _ _) hn⟩
theorem runQ_of {all : List Oper} (hq : isQuiet E A o = true) {K : St → Prop} (hK : LikeK K) (hy : YieldsA P E A all o d σ) (h : K (σ.putO o.dst d)) : runQ P E A all o σ K := by
 rcases hy with ⟨hw, hy⟩ | ⟨hw, rfl⟩
 ·refine z1d hw (fun _ σ' hl => ?_) fun e => by cases e
  obtain ⟨d', e, q⟩ := zOb (K := fun d' => d' = d) hq (zPb hl) (hy (fun d' _ => d' = d) rfl)
  subst e
  exact q _ (hK _ _ (hl.putO _ _) h)
 ·exact z1d hw (fun e => by cases e) fun _ σ' hl => hK _ _ (hl.putO _ _) h
theorem px_put {X : Option (Nat × D)} {i : Option Nat} {e : D} {τ τ1 : St} (h : Like τ1 (τ.px X)) (hne : ∀ s d, X = some (s, d) → i ≠ some s) : Like (τ1.putO i e) ((τ.putO i e).px X) := by
 cases X with
 | none => exact h.putO i e
 | some x =>
  obtain ⟨s, d⟩ := x
  have h1 := h.putO i e
  refine h1.trans ?_
  exact z5i τ (x := some s) (y := i) d e fun j hj => by injection hj with hj; subst hj; exact hne s d rfl
theorem z2d {all : List Oper} {X : Option (Nat × D)} (hX : XOk X) {σ1 : St} (hl : Like σ1 (σ.px X)) (hx : ∀ s d, X = some (s, d) → s ∉ o.looksAt all.toArray) (hd : ∀ s d, X = some (s, d) → o.dst ≠ some s) (hq : isQuiet E A o = false) {K K' : St → Prop}
  (h : runL P E A all o σ1 K) (hK : ∀ τ τ1, Like τ1 (τ.px X) → (∀ t, (σ.get t).ref = none → o.dst ≠ some t → τ.get t = σ.get t) → K τ1 → K' τ) : runL P E A all o σ K' := by
 have hw : wantedA all o σ1 = wantedA all o σ := by
  rw [← z4i hl]
  cases X with
  | none => rfl
  | some x =>
   obtain ⟨s, d⟩ := x
   exact (zbh (x := some s) (fun i hi => by injection hi with hi; subst hi; exact hx _ _ rfl) trivial).2
 have hop : ∀ s d, X = some (s, d) → Operand.tmp s ∉ o.op.operands := fun s d e hm => hx s d e (List.mem_append_left _ (List.mem_filterMap.2 ⟨.tmp s, by simpa using hm, rfl⟩))
 have fin : ∀ (e : D) (τ τ1 : St), Like τ1 (τ.px X) → Keep σ τ → K (τ1.putO o.dst e) → K' (τ.putO o.dst e) := fun e τ τ1 q1 q2 q3 => hK _ _ (px_put q1 hd) (fun t ht hne => by
  rw [← q2 t ht]
  cases hdst : o.dst with
  | none => rfl
  | some j =>
   show (τ.put j e).get t = _
   rw [St.get_put, if_neg]
   intro ej; subst ej; exact hne hdst) q3
 have liken : ∀ σ1' σ', Like σ1 σ1' → Like σ σ' → Like σ1' (σ'.px X) := fun σ1' σ' h1 h2 => by
  have h3 := h1.symm.trans hl
  refine h3.trans ?_
  cases X with
  | none => exact h2
  | some x => exact h2.put _ _
 rcases guardA h with ⟨hw1, σ1', hl1, hy⟩ | ⟨hw1, σ1', hl1, hn⟩
 ·refine z1d (hw.symm.trans hw1) (fun _ σ' hl' => ?_) fun e => by cases e
  exact z6n hX (liken _ _ hl1 hl') hop hq hy fun e τ τ1 q1 q2 q3 => fin e τ τ1 q1 (fun t ht => by rw [← hl'.get t]; exact q2 t (by rw [hl'.get t]; exact ht)) q3
 ·refine z1d (hw.symm.trans hw1) (fun e => by cases e) fun _ σ' hl' => ?_
  exact fin _ σ' σ1' (liken _ _ hl1 hl') (fun t _ => hl'.get t) hn
theorem z7b {all : List Oper} {K : St → Prop} (hK : LikeK K) : ∀ (fuel : Nat) (listed : Array Bool), LikeK (anyE P E A all K fuel listed)
 | 0, _, σ, σ', hl, h => ⟨h.1, hK _ _ hl h.2⟩
 | fuel + 1, listed, σ, σ', hl, h => ⟨fun h0 => hK _ _ hl (h.1 h0), fun i hi => by
  have h1 := h.2 i hi
  have ih : LikeK (anyE P E A all K fuel (listed.setIfInBounds i true)) := z7b hK fuel _
  unfold atD at h1 ⊢
  cases ho : all[i]? with
  | none => rw [ho] at h1; exact h1.elim
  | some o =>
   rw [ho] at h1
   simp only at h1 ⊢
   unfold runE at h1 ⊢
   split at h1
   ·rename_i hq
    obtain ⟨d, q1, q2⟩ := zch hq ih h1
    exact runQ_of hq ih (q1.like hq hl) (ih _ _ (hl.putO _ _) q2)
   ·rename_i hq
    exact z2d (X := none) (fun s d e => by cases e) (σ := σ') hl.symm.symm (fun s d e => by cases e) (fun s d e => by cases e) hq h1 fun τ τ1 q1 _ q3 => ih _ _ q1 q3⟩
theorem z6i {all : List Oper} {oi oj : Oper} {τ : St} (hy : YieldsA P E A all oi d σ) (h : ∀ t, (σ.get t).ref = none → oj.dst ≠ some t → τ.get t = σ.get t) (ha : ∀ i, oj.dst = some i → i ∉ oi.looksAt all.toArray) : wantedA all oi τ = wantedA all oi σ := by
 have hw : ∃ b, wantedA all oi σ = some b := by rcases hy with ⟨h, _⟩ | ⟨h, _⟩ <;> exact ⟨_, h⟩
 obtain ⟨b, hw⟩ := hw
 unfold wantedA at hw ⊢
 split
 ·rfl
 ·rename_i j want e
  rw [e] at hw
  simp only at hw
  split
  ·rename_i s hs
   rw [hs] at hw
   simp only at hw
   have hr : (σ.get s).ref = none := by
    cases hg : σ.get s <;> rw [hg] at hw <;> first | rfl | (simp at hw)
   rw [h s hr fun e' => ha s e' (by
    unfold gslot at hs
    split at hs
    ·rename_i o' ho'
     simp [Oper.looksAt, e, ho', hs]
    ·cases hs)]
  ·rfl
theorem z7i {all : List Oper} {K : St → Prop} (hK : LikeK K) {i : Nat} {oi : Oper} {d : D} (hi : all[i]? = some oi) (hqi : isQuiet E A oi = true) :
  ∀ (fuel : Nat) (listed : Array Bool) (σ : St),
   (∀ j oj, all[j]? = some oj → j ≠ i → listed.getD j true = false → (∀ e ∈ oj.after, Region.binds .any e = true → e.on ≠ i) → oi.apart all.toArray oj = true ∧ (isQuiet E A oj = true ∨ ((∀ x ∈ oi.op.operands, (σ.ev x).ref = none) ∧ d.ref = none))) →
   i ∈ Region.ready .any all.toArray listed → YieldsA P E A all oi d σ →
   anyE P E A all K fuel (listed.setIfInBounds i true) (σ.putO oi.dst d) → anyE P E A all K (fuel + 1) listed σ := by
 intro fuel
 have self : ∀ (K : St → Prop) (σ : St), LikeK K → YieldsA P E A all oi d σ → K (σ.putO oi.dst d) → atD all i fun o => runE P E A all o σ K := fun K σ hK hy h => by
  unfold atD
  rw [hi]
  simp only
  unfold runE
  rw [hqi]
  exact runQ_of hqi hK hy h
 induction fuel with
 | zero =>
  intro listed σ _ hr hy H
  refine ⟨fun h => (by rw [h] at hr; cases hr), fun j hj => ?_⟩
  by_cases hji : j = i
  ·subst hji; exact self _ _ (z7b hK 0 _) hy H
  ·have := ready_mono hj hji
   rw [H.1] at this
   cases this
 | succ fuel ih =>
  intro listed σ hfree hr hy H
  refine ⟨fun h => (by rw [h] at hr; cases hr), fun j hj => ?_⟩
  by_cases hji : j = i
  ·subst hji; exact self _ _ (z7b hK _ _) hy H
  ·have h1 := H.2 j (ready_mono hj hji)
   obtain ⟨hjun, oj, hoj, hall⟩ := mem_ready.1 hj
   have hoj' : all[j]? = some oj := by simpa using hoj
   have hnot : ∀ e ∈ oj.after, Region.binds .any e = true → e.on ≠ i := fun e he hb heq => by
    have h1 := hall e he hb
    have h0 := (mem_ready.1 hr).1
    rw [heq] at h1
    rcases Nat.lt_or_ge i listed.size with h' | h'
    ·simp [h'] at h0 h1; rw [h0] at h1; cases h1
    ·simp [Array.getElem?_eq_none h'] at h1
   obtain ⟨hap, hkind⟩ := hfree j oj hoj' hji hjun hnot
   obtain ⟨a1, a2, a3⟩ := Oper.apart_spec hap
   have hcomm : (listed.setIfInBounds i true).setIfInBounds j true = (listed.setIfInBounds j true).setIfInBounds i true := Array.setIfInBounds_comm _ _ (Ne.symm hji)
   have hstep : ∀ σ', YieldsA P E A all oi d σ' → ((∀ x ∈ oi.op.operands, (σ.ev x).ref = none) → ∀ x ∈ oi.op.operands, σ'.ev x = σ.ev x) →
     anyE P E A all K fuel ((listed.setIfInBounds j true).setIfInBounds i true) (σ'.putO oi.dst d) → anyE P E A all K (fuel + 1) (listed.setIfInBounds j true) σ' := fun σ' hy' hpure h3 => by
    refine ih (listed.setIfInBounds j true) σ' (fun k ok hk hki hun hno => ?_) (ready_mono hr (Ne.symm hji)) hy' h3
    have := hfree k ok hk hki (by
     by_cases hjk : j = k
     ·subst hjk; exact hjun
     ·rw [getD_set_ne true hjk] at hun; exact hun) hno
    exact ⟨this.1, this.2.imp id fun h => ⟨fun x hx => by rw [hpure h.1 x hx]; exact h.1 x hx, h.2⟩⟩
   unfold atD at h1 ⊢
   rw [hoj'] at h1 ⊢
   simp only at h1 ⊢
   rw [hcomm] at h1
   have hLk := z7b hK fuel ((listed.setIfInBounds j true).setIfInBounds i true) (P := P) (E := E) (A := A) (all := all)
   have hLk' := z7b hK (fuel + 1) (listed.setIfInBounds j true) (P := P) (E := E) (A := A) (all := all)
   unfold runE at h1 ⊢
   split at h1
   ·rename_i hqj
    obtain ⟨e, q1, q2⟩ := zch hqj hLk h1
    have hp := zbh (σ := σ) (d := d) a1 trivial (o := oj)
    have q1' : YieldsA P E A all oj e σ := q1.same hqj ⟨fun x hx => (hp.1.1 x hx).symm, fun x _ k _ => by cases oi.dst <;> rfl⟩ hp.2.symm
    refine runQ_of hqj hLk' q1' ?_
    have hp' := zbh (σ := σ) (d := e) a3 trivial (o := oi)
    refine hstep _ (hy.same hqi hp'.1 hp'.2) (fun _ x hx => hp'.1.1 x hx) ?_
    exact hLk _ _ (z5i σ d e a2) q2
   ·rename_i hqj
    rcases hkind with hkind | ⟨hpure, hdr⟩
    ·rw [hkind] at hqj; cases hqj
    ·cases hdst : oi.dst with
     | none =>
      rw [hdst] at h1
      refine z2d (X := none) (fun s d e => by cases e) (σ := σ) (σ1 := σ.putO none d) (.refl _) (fun s d e => by cases e) (fun s d e => by cases e) hqj h1 fun τ τ1 p1 p2 p3 => ?_
      have hev : ∀ x ∈ oi.op.operands, τ.ev x = σ.ev x := fun x hx => by
       cases x with
       | tmp t => exact p2 t (hpure _ hx) fun e => a3 t e (List.mem_append_left _ (List.mem_filterMap.2 ⟨.tmp t, by simpa using hx, rfl⟩))
       | _ => rfl
      refine hstep τ (hy.same hqi ⟨hev, fun x hx k hk => by rw [hpure x hx] at hk; cases hk⟩ ?_) (fun _ => hev) ?_
      ·exact z6i hy p2 a3
      ·rw [hdst]; exact hLk _ _ p1 p3
     | some s =>
      rw [hdst] at h1
      refine z2d (X := some (s, d)) (fun s' d' e => by injection e with e; injection e with e1 e2; subst e2; exact hdr) (σ := σ) (σ1 := σ.put s d) (.refl _) (fun s' d' e => by injection e with e; injection e with e1 e2; subst e1; exact a1 s hdst)
       (fun s' d' e => by injection e with e; injection e with e1 e2; subst e1; exact a2 s hdst) hqj h1 fun τ τ1 p1 p2 p3 => ?_
      have hev : ∀ x ∈ oi.op.operands, τ.ev x = σ.ev x := fun x hx => by
       cases x with
       | tmp t => exact p2 t (hpure _ hx) fun e => a3 t e (List.mem_append_left _ (List.mem_filterMap.2 ⟨.tmp t, by simpa using hx, rfl⟩))
       | _ => rfl
      refine hstep τ (hy.same hqi ⟨hev, fun x hx k hk => by rw [hpure x hx] at hk; cases hk⟩ ?_) (fun _ => hev) ?_
      ·exact z6i hy p2 a3
      ·rw [hdst]; exact hLk _ _ p1 p3
theorem z3d {f : Nat → Bool} : ∀ {l : List Nat} {i : Nat}, findB f l = some i → i ∈ l ∧ f i = true
 | [], i, h => by cases h
 | j :: r, i, h => by
  unfold findB at h
  cases hf : f j with
  | true => rw [hf, cond_true] at h; injection h with h; subst h; exact ⟨List.mem_cons_self, hf⟩
  | false => rw [hf, cond_false] at h; have := z3d h; exact ⟨List.mem_cons_of_mem _ this.1, this.2⟩
theorem z8i {f : Nat → Prop} : ∀ {l : List Nat}, allP f l → ∀ i ∈ l, f i
 | [], _, i, hi => by cases hi
 | [j], h, i, hi => by rcases List.mem_cons.1 hi with rfl | hi; exact h; cases hi
 | j :: k :: r, h, i, hi => by
  rcases List.mem_cons.1 hi with rfl | hi
  ·exact h.1
  ·exact z8i h.2 i hi
theorem z4d {all : List Oper} {listed : Array Bool} {i : Nat} {oi : Oper} {f : Oper → Bool} : ∀ {l : List Oper} {k : Nat}, goesFirst all listed i oi f k l = true →
  ∀ j oj, l[j]? = some oj → k + j ≠ i → listed.getD (k + j) true = false → (∀ e ∈ oj.after, Region.binds .any e = true → e.on ≠ i) → oi.apart all.toArray oj = true ∧ f oj = true
 | [], k, h, j, oj, hj, _, _, _ => by simp at hj
 | o :: r, k, h, j, oj, hj, h1, h2, h3 => by
  simp only [goesFirst, Bool.and_eq_true, Bool.or_eq_true] at h
  cases j with
  | zero =>
   simp at hj; subst hj
   rcases h.1 with ((h0 | h0) | h0) | h0
   ·exact absurd (zb.1 h0) h1
   ·rw [Nat.add_zero] at h2; rw [h2] at h0; cases h0
   ·exfalso
    obtain ⟨e, he, hb⟩ := List.any_eq_true.1 h0
    simp only [Bool.and_eq_true] at hb
    exact h3 e (by simpa using he) hb.1 (zb.1 hb.2)
   ·exact h0
  | succ j =>
   exact z4d h.2 j oj (by simpa using hj) (by omega) (by rw [show k + 1 + j = k + (j + 1) by omega]; exact h2) h3
theorem z9i {all : List Oper} {yes no yes' no' : St → Prop} (h : guardD all o σ yes no) (hy : ∀ σ, yes σ → yes' σ) (hn : ∀ σ, no σ → no' σ) : guardD all o σ yes' no' := by
 unfold guardD at h ⊢
 split at h
 ·exact hy _ h
 ·rename_i j want _
  split at h
  ·split at h
   ·rename_i b _
    cases b <;> cases want
    ·exact hy _ h
    ·exact hn _ h
    ·exact hn _ h
    ·exact hy _ h
   ·exact hn _ h
   ·exact h.elim
  ·exact h.elim
theorem anyX_E {all : List Oper} {K K' : St → Prop} (hKK : ∀ σ, K σ → K' σ) (hK : LikeK K') : ∀ (fuel : Nat) (listed : Array Bool) (σ : St), anyX P E A all K fuel listed σ → anyE P E A all K' fuel listed σ
 | 0, listed, σ, h => by
  unfold anyX at h
  unfold anyE
  split at h
  ·rename_i hr; exact ⟨hr, hKK _ h⟩
  ·exact h.elim
 | fuel + 1, listed, σ, h => by
  have ih : ∀ l σ, anyX P E A all K fuel l σ → anyE P E A all K' fuel l σ := fun l σ => anyX_E hKK hK fuel l σ
  have ihK : ∀ l, LikeK (anyE P E A all K' fuel l) := fun l => z7b hK fuel l
  unfold anyX at h
  split at h
  ·rename_i hr
   exact ⟨fun _ => hKK _ h, fun i hi => by rw [hr] at hi; cases hi⟩
  ·rename_i hnil
   split at h
   ·rename_i i hf
    obtain ⟨him, hc⟩ := z3d hf
    unfold atD at h
    unfold canonA at hc
    cases ho : all[i]? with
    | none => rw [ho] at h; exact h.elim
    | some oi =>
     rw [ho] at h hc
     simp only [Bool.and_eq_true] at h hc
     obtain ⟨hq, hg⟩ := hc
     have h' : runQ P E A all oi σ (anyE P E A all K' fuel (listed.setIfInBounds i true)) := z9i h (fun σ h => by
      obtain ⟨d, q1, q2⟩ := zOb hq (zPb (.refl σ)) h
      exact q2 _ (ih _ _ q1)) fun σ h => ih _ _ h
     obtain ⟨d, q1, q2⟩ := zch hq (ihK _) h'
     refine z7i hK ho hq fuel listed σ (fun j oj hj hne hun hno => ?_) him q1 q2
     have := z4d hg j oj hj (by omega) (by rw [Nat.zero_add]; exact hun) hno
     exact ⟨this.1, .inl this.2⟩
   ·split at h
    ·rename_i i hf
     obtain ⟨him, hc⟩ := z3d hf
     unfold atD at h
     unfold canonB at hc
     cases ho : all[i]? with
     | none => rw [ho] at h; exact h.elim
     | some oi =>
      rw [ho] at h hc
      simp only [Bool.and_eq_true] at h hc
      obtain ⟨⟨hq, hp⟩, hg⟩ := hc
      have hpure : ∀ x ∈ oi.op.operands, (σ.ev x).ref = none := fun x hx => zL.1 (List.all_eq_true.1 hp x (by simpa using hx))
      have h' : ∃ d, YieldsA P E A all oi d σ ∧ d.ref = none ∧ anyE P E A all K' fuel (listed.setIfInBounds i true) (σ.putO oi.dst d) := by
       rcases guardA h with ⟨hw, σ', hl, hy⟩ | ⟨hw, σ', hl, hn⟩
       ·obtain ⟨d, q1, q2⟩ := zOb (σ' := σ) hq (zPb hl.symm) hy
        cases hd : noRef d with
        | false => rw [hd] at q1; exact q1.elim
        | true =>
         rw [hd, cond_true] at q1
         exact ⟨d, .inl ⟨hw, q2⟩, zL.1 hd, ihK _ _ _ (hl.symm.putO _ _) (ih _ _ q1)⟩
       ·exact ⟨.tup [], .inr ⟨hw, rfl⟩, rfl, ihK _ _ _ (hl.symm.putO _ _) (ih _ _ hn)⟩
      obtain ⟨d, q1, q2, q3⟩ := h'
      refine z7i hK ho hq fuel listed σ (fun j oj hj hne hun hno => ?_) him q1 q3
      have := z4d hg j oj hj (by omega) (by rw [Nat.zero_add]; exact hun) hno
      exact ⟨this.1, .inr ⟨hpure, q2⟩⟩
    ·refine ⟨fun h0 => (hnil h0).elim, fun i hi => ?_⟩
     have h1 := z8i h i hi
     unfold atD at h1 ⊢
     cases ho : all[i]? with
     | none => rw [ho] at h1; exact h1.elim
     | some o =>
      rw [ho] at h1
      simp only at h1 ⊢
      unfold runE at h1 ⊢
      split at h1
      ·rename_i hq
       exact z9i h1 (fun σ h => by
        obtain ⟨d, q1, q2⟩ := zOb hq (zPb (.refl σ)) h
        exact q2 _ (ih _ _ q1)) fun σ h => ih _ _ h
      ·rename_i hq
       exact z2d (X := none) (fun s d e => by cases e) (σ := σ) (.refl σ) (fun s d e => by cases e) (fun s d e => by cases e) hq h1 fun τ τ1 q1 _ q3 => ihK _ _ _ q1 (ih _ _ q3)
end
end Go.Proofs.YtajnbkhgnppckaaGreatDoor
/- A denotation of the program's code on plain data: code and functions are told rightly. -/
namespace Go.Proofs.YtajnbkhgnppckaaGreatDoor
open Go.RowKit
set_option linter.unusedVariables false
set_option linter.unusedSimpArgs false
section
variable {P : Program} {E : TE} {A : Ann} {b0 : Base} {w w' : World} {S S' : Nat → Prop} {pl pl' : Nat → Value} {N : Nat} {σ σ' : St} {a : Act} {v : Value} {d : D} {o : Oper}
theorem z8b (k : Nat) : ∀ (l : List Nat) {o : HObj}, look k (keepHp σ l) = some o → look k σ.hp = some o
 | [], o, h => by cases h
 | j :: r, o, h => by
  unfold keepHp at h
  cases ho : σ.ob j with
  | none => rw [ho] at h; exact z8b k r h
  | some o' =>
   rw [ho] at h
   simp only [zd] at h
   split at h
   ·rename_i e; subst e; injection h with h; subst h; exact ho
   ·exact z8b k r h
theorem zaj (i : Nat) : ∀ (l : List Nat), look i (l.map fun j => (j, σ.get j)) = some (σ.get i) ∨ look i (l.map fun j => (j, σ.get j)) = none
 | [] => .inr rfl
 | j :: r => by
  rw [List.map_cons, zd]
  split
  ·rename_i e; subst e; exact .inl rfl
  ·exact zaj i r
theorem MtB.keep (m : MtB P b0 N σ a w S pl) (L : List Nat × List Nat) : MtB P b0 N (σ.keep L) a w S pl where
 dz := m.dz
 sz := m.sz
 fr := fun i => by
  unfold St.get St.keep
  rcases zaj (σ := σ) i L.1 with h | h
  ·rw [h]; exact m.fr i
  ·rw [h]; exact zA
 hp := fun k o h => m.hp k o (z8b k _ h)
 lt := m.lt
 src := m.src
 priv := fun k o b h => m.priv k o b (z8b k _ h)
 inj := fun k k' o o' b h1 h2 => m.inj k k' o o' b (z8b k _ h1) (z8b k' _ h2)
 below := m.below
 stay := m.stay
 gok := m.gok
theorem z7n (m : MtB P b0 N σ a w S pl) (k off : Nat) : ∃ S', MtB P b0 N (pubHead σ k off) a w S' pl := by
 unfold pubHead
 cases Nat.beq off 999999 with
 | false => obtain ⟨S', _, m'⟩ := zOi m k off; exact ⟨S', m'⟩
 | true =>
  rw [cond_true]
  split
  ·rename_i o ho
   cases hf : o.flatB with
   | false => exact ⟨S, m⟩
   | true =>
    have hfl : o.flat := by
     cases o with
     | cells cs => exact fun d hd => zL.1 (List.all_eq_true.1 hf d hd)
     | row _ _ _ => trivial
     | mp _ _ _ => trivial
     | val cs => exact fun d hd => zL.1 (List.all_eq_true.1 hf d hd)
    exact ⟨_, m.pub ho hfl⟩
  ·exact ⟨S, m⟩
theorem head_ok {L : List Nat × List Nat} {K : St → Prop} (h : headD A L σ K) (m : Mt P b0 N σ a w) : ∃ σ', K σ' ∧ Mt P b0 N σ' a w := by
 obtain ⟨S, pl, m⟩ := m
 unfold headD at h
 simp only at h
 have hp : ∀ (l : List (Nat × Nat)) (σ : St) (S : Nat → Prop), MtB P b0 N σ a w S pl → ∃ S', MtB P b0 N (headPubs l σ) a w S' pl := by
  intro l
  induction l with
  | nil => exact fun σ S m => ⟨S, m⟩
  | cons x r ih => exact fun σ S m => let ⟨S1, m1⟩ := z7n m x.1 x.2; ih _ _ m1
 have hn : ∀ (l : List (Nat × (Nat × (TypeId × Ty)))) (σ : St) (S : Nat → Prop) (pl : Nat → Value), MtB P b0 N σ a w S pl → ∃ pl', MtB P b0 N (headNils l σ) a w S pl' := by
  intro l
  induction l with
  | nil => exact fun σ S pl m => ⟨pl, m⟩
  | cons x r ih => exact fun σ S pl m => let ⟨pl1, m1, _⟩ := zNi m x.1 x.2.1 x.2.2.1 x.2.2.2; ih _ _ _ m1
 obtain ⟨S1, m1⟩ := hp A.pubs σ S m
 obtain ⟨pl1, m2⟩ := hn A.nils _ _ _ m1
 obtain ⟨σ', ds', S', hK, _, m', _⟩ := zM h m2
 exact ⟨_, hK, S', pl1, m'.keep L⟩
theorem anyX_wp (F : Facts P E) {all : List Oper} {K : Ex → St → Prop} (hd : dstOk A.n all = true) (fuel : Nat) (listed : Array Bool) (σ : St) (a : Act) (w : World) (h : anyX P E A all (K .normal) fuel listed σ) (m : Mt P b0 A.n σ a w) : wpAny P .any all.toArray (QK P b0 A.n K) fuel listed a w := by
 have hK : LikeK fun σ' => ∃ σ'', Like σ' σ'' ∧ K .normal σ'' := fun σ1 σ2 hl ⟨σ'', h1, h2⟩ => ⟨σ'', hl.symm.trans h1, h2⟩
 have h' := anyX_E (K' := fun σ' => ∃ σ'', Like σ' σ'' ∧ K .normal σ'') (fun σ hk => ⟨σ, .refl _, hk⟩) hK _ _ _ h
 exact anyE_wp (b0 := b0) (Q := QK P b0 A.n K) F hd (fun σ1 a1 w1 ⟨σ'', hl, hk⟩ m1 => ⟨.normal, σ'', rfl, hk, m1.like hl⟩) _ _ σ _ _ h' m
theorem anyC_wp (F : Facts P E) {all : List Oper} {K : Ex → St → Prop} (hd : dstOk A.n all = true) : ∀ (fuel : Nat) (listed : Array Bool) (σ : St) (a : Act) (w : World), anyC P E A all (K .normal) fuel listed σ → Mt P b0 A.n σ a w → wpAny P .any all.toArray (QK P b0 A.n K) fuel listed a w
 | 0, listed, σ, a, w, h, m => anyX_wp F hd 0 listed σ a w h m
 | fuel + 1, listed, σ, a, w, h, m => by
  unfold anyC at h
  split at h
  ·exact anyX_wp F hd _ listed σ a w h m
  ·split at h
   ·rename_i i hf
    obtain ⟨him, hc⟩ := z3d hf
    unfold atD at h
    unfold canonC at hc
    cases ho : all[i]? with
    | none => rw [ho] at h; exact h.elim
    | some oi =>
     rw [ho] at h hc
     simp only [Bool.and_eq_true] at h hc
     obtain ⟨⟨⟨hq, hgd⟩, hg⟩, hsel⟩ := hc
     have hdst : ∀ i, oi.dst = some i → i < A.n := z0d hd oi (List.mem_of_getElem? ho)
     have hwant : Region.wanted oi (yielded all.toArray a.tmps) = true := by
      unfold Region.wanted
      rw [Option.isNone_iff_eq_none.1 hgd]
     have fin : ∀ (u : Value) (d : D), (∀ w, (execOp a.eval oi).run P w = .ok (.value u) w) → (∀ S pl, MtB P b0 A.n σ a w S pl → Rd w S pl u d) → anyC P E A all (K .normal) fuel (listed.setIfInBounds i true) (σ.putO oi.dst d) → wpAny P .any all.toArray (QK P b0 A.n K) (fuel + 1) listed a w := fun u d hrun hrd h => by
      obtain ⟨S, pl, m⟩ := m
      refine wpAny_first (by simpa using ho) (fun j o cs b hj hs => ?_) (fun c a w ⟨x, σ, e, _⟩ => by cases e) fuel listed a w (fun j oj hj hne hun hno => ?_) him (.inl ⟨hwant, hrun⟩) ?_
      ·have := List.all_eq_true.1 hsel o (List.mem_of_getElem? (by simpa using hj))
       rw [hs] at this; cases this
      ·exact (z4d hg j oj (by simpa using hj) (by omega) (by rw [Nat.zero_add]; exact hun) hno).1
      ·exact anyC_wp F hd fuel _ _ _ _ h ⟨S, pl, m.putO hdst (hrd S pl m)⟩
     have pt : ∀ t k off, σ.get t = .ptr k off → ∃ b, a.eval (.tmp t) = .pointer (some ⟨b, off, none⟩) ∧ ∀ S pl, MtB P b0 A.n σ a w S pl → pl k = .pointer (some ⟨b, 0, none⟩) := fun t k off hget => by
      obtain ⟨S, pl, m⟩ := m
      have hx := m.fr t
      rw [hget] at hx
      obtain ⟨b, hp, hv⟩ := hx
      refine ⟨b, hv, fun S' pl' m' => ?_⟩
      have hx' := m'.fr t
      rw [hget] at hx'
      obtain ⟨b', hp', hv'⟩ := hx'
      rw [hv] at hv'
      injection hv' with e; injection e with e; injection e with e
      rw [hp', e]
     split at hq
     ·rename_i T t f hop
      split at hq
      ·rename_i k off hget
       obtain ⟨b, hev, hpl⟩ := pt t k off hget
       unfold opD at h
       rw [hop] at h
       simp only at h
       unfold fieldD at h
       split at h
       ·rename_i δ hfo
        rw [show σ.ev (.tmp t) = σ.get t from rfl, hget] at h
        simp only at h
        exact fin (.pointer (some ⟨b, off + δ, none⟩)) (.ptr k (off + δ)) (fun w => by
         unfold execOp; rw [hop]
         simp only [hev, Sem.run_bind, zAi F hfo, Result.andThen_ok, Sem.run_pure]) (fun S pl m => ⟨b, hpl S pl m, rfl⟩) h
       ·exact h.elim
      ·cases hq
     ·rename_i t hop
      split at hq
      ·rename_i k off hget
       obtain ⟨b, hev, hpl⟩ := pt t k off hget
       unfold opD at h
       rw [hop] at h
       simp only at h
       rw [show σ.ev (.tmp t) = σ.get t from rfl, hget] at h
       exact fin (.pointer (some ⟨b, off, none⟩)) (.ptr k off) (fun w => by
        unfold execOp; rw [hop]
        simp only [hev, Sem.run_pure]) (fun S pl m => ⟨b, hpl S pl m, rfl⟩) h
      ·cases hq
     ·rename_i t hop
      split at hq
      ·rename_i k off hget
       obtain ⟨b, hev, hpl⟩ := pt t k off hget
       unfold opD at h
       rw [hop] at h
       simp only at h
       rw [show σ.ev (.tmp t) = σ.get t from rfl, hget] at h
       exact fin (.pointer (some ⟨b, off, none⟩)) (.ptr k off) (fun w => by
        unfold execOp; rw [hop]
        simp only [hev, Sem.run_pure, Sem.run_bind, Result.andThen_ok]) (fun S pl m => ⟨b, hpl S pl m, rfl⟩) h
      ·cases hq
     ·cases hq
   ·exact anyX_wp F hd _ listed σ a w h m
theorem z8n (F : Facts P E) {id : Nat} {ops : Array Oper} {draw : Bool} {c : Nat} {K : Ex → St → Prop} (h : den P E A (.region id ops draw) c σ K) (m : Mt P b0 A.n σ a w) : (Code.region id ops draw).wp P (QK P b0 A.n K) a w := by
 unfold den at h
 cases hd : dstOk A.n ops.toList with
 | false => rw [hd] at h; exact h.elim
 | true =>
  rw [hd] at h
  cases draw with
  | false =>
   refine wp_region ?_
   have hl := wpOps_eq_wpList (P := P) (ops := ops) (Q := QK P b0 A.n K) ops.toList 0 (fun j => by simp)
   rw [show List.range ops.size = List.range' 0 ops.toList.length by simp [List.range_eq_range'], hl]
   exact ops_wp F (fun σ a w hk m => ⟨.normal, σ, rfl, hk, m⟩) ops.toList σ a w hd h m
  | true =>
   simp only at h
   refine wp_region_any F.mixed ?_
   have m' : Mt P b0 A.n σ a { w with drawn := w.drawn + 1 } := by
    obtain ⟨S, pl, m⟩ := m
    exact ⟨S, pl, m.later (w' := w.drew) ⟨rfl, rfl, rfl, Nat.le_refl _, fun _ _ => rfl⟩⟩
   have := anyC_wp F hd _ _ σ _ _ h m'
   simpa using this
theorem den_wp (F : Facts P E) : ∀ (c : Code) (cur : Nat) (σ : St) (K : Ex → St → Prop) (a : Act) (w : World), den P E A c cur σ K → Mt P b0 A.n σ a w → c.wp P (QK P b0 A.n K) a w := by
 intro c
 induction c with
 | skip => intro cur σ K a w h m; exact wp_skip ⟨.normal, σ, rfl, h, m⟩
 | region id ops draw => intro cur σ K a w h m; exact z8n F h m
 | seq x y ihx ihy =>
  intro cur σ K a w h m
  unfold den at h
  refine wp_seq (wp_mono (ihx cur σ _ a w h m) fun e a w h => ?_)
  obtain ⟨x, σ', he, hk, m'⟩ := h
  cases e <;> simp only [exOf, Option.some.injEq, reduceCtorEq] at he <;> subst he
  ·exact ihy cur σ' K a w hk m'
  ·exact ⟨_, σ', rfl, hk, m'⟩
  ·exact ⟨_, σ', rfl, hk, m'⟩
 | cond x y z ihy ihz =>
  intro cur σ K a w h m
  unfold den at h
  split at h
  ·rename_i t hx
   have m0 := m
   obtain ⟨S, pl, m⟩ := m
   have hv : a.eval x = .bool t := by have := ev_rd m x; rw [hx] at this; exact (this.flat (d := .bool t) rfl).bool_inv
   have hlk : Like σ (σ.know x t) := by
    cases x with
    | tmp s => exact zVd hx
    | _ => exact .refl σ
   cases t
   ·exact wp_cond_false hv (ihz cur _ K a w h (m0.like hlk))
   ·exact wp_cond_true hv (ihy cur _ K a w h (m0.like hlk))
  ·exact h.elim
 | block id body ih =>
  intro cur σ K a w h m
  unfold den at h
  refine wp_block (wp_mono (ih id σ _ a w h m) fun e a w h => ?_)
  obtain ⟨x, σ', he, hk, m'⟩ := h
  cases e <;> simp only [exOf, Option.some.injEq, reduceCtorEq] at he <;> subst he
  ·exact ⟨_, σ', rfl, hk, m'⟩
  ·rename_i j
   simp only at hk
   unfold Exit.inBlock
   by_cases hj : j = id
   ·rw [zb.2 hj, cond_true] at hk
    simp only [hj, if_true]
    exact ⟨_, σ', rfl, hk, m'⟩
   ·rw [beq_false' hj, cond_false] at hk
    simp only [hj, if_false]
    exact ⟨_, σ', rfl, hk, m'⟩
  ·exact ⟨_, σ', rfl, hk, m'⟩
 | loop body ih =>
  intro cur σ K a w h m
  unfold den at h
  obtain ⟨σ', ⟨n, hn⟩, m'⟩ := head_ok h m
  refine wp_loop_rounds n ?_
  clear h m
  induction n generalizing σ' a w with
  | zero => exact hn.elim
  | succ n ihn =>
   rw [rounds_succ]
   unfold iter at hn
   refine wp_mono (ih cur σ' _ a w hn m') fun e a w h => ?_
   obtain ⟨x, σ'', he, hk, m''⟩ := h
   cases e <;> simp only [exOf, Option.some.injEq, reduceCtorEq] at he <;> subst he
   ·obtain ⟨σ3, hk, m3⟩ := head_ok hk m''
    exact ihn a w σ3 m3 hk
   ·exact ⟨_, σ'', rfl, hk, m''⟩
   ·exact ⟨_, σ'', rfl, hk, m''⟩
 | exit id => intro cur σ K a w h m; exact wp_exit ⟨.exit id, σ, rfl, h, m⟩
 | ret => intro cur σ K a w h m; exact wp_ret ⟨.ret, σ, rfl, h, m⟩
 | _ => intro cur σ K a w h m; exact h.elim
def seqK (P : Program) (E : TE) (A : Ann) (b : Code) (c : Nat) (K : Ex → St → Prop) : Ex → St → Prop := fun e σ => match e with
 | .normal => den P E A b c σ K
 | .exit id => K (.exit id) σ
 | .ret => K .ret σ
def blockK (id : Nat) (K : Ex → St → Prop) : Ex → St → Prop := fun e σ => match e with
 | .normal => K .normal σ
 | .exit j => bif Nat.beq j id then K .normal σ else K (.exit j) σ
 | .ret => K .ret σ
def iterK (body : St → (Ex → St → Prop) → Prop) (A : Ann) (L : List Nat × List Nat) (n : Nat) (K : Ex → St → Prop) : Ex → St → Prop := fun e σ => match e with
 | .normal => headD A L σ fun σ => iter body A L n σ K
 | .exit id => K (.exit id) σ
 | .ret => K .ret σ
def sub : List Nat → Code → Code
 | [], c => c
 | 0 :: p, .seq a _ => sub p a
 | _ :: p, .seq _ b => sub p b
 | 0 :: p, .cond _ a _ => sub p a
 | _ :: p, .cond _ _ b => sub p b
 | _ :: p, .block _ b => sub p b
 | _ :: p, .loop b => sub p b
 | _, _ => .skip
def argFr : Nat → List D → List (Nat × D)
 | _, [] => []
 | i, d :: ds => (i, d) :: argFr (i + 1) ds
def St.init (args : List D) : St := ⟨argFr 0 args, []⟩
def resCells (E : TE) (σ : St) : List ResultVar → List D
 | [] => []
 | .tmp t :: rs => σ.get t :: resCells E σ rs
 | .cell t T :: rs => (match look T E.zs, addrCells σ (σ.get t) with
  | some (_, zs), some cs => cs.take zs.length
  | _, _ => []) ++ resCells E σ rs
def resD (E : TE) (σ : St) : ResultVar → Option D
 | .tmp t => bif noRef (σ.get t) then some (σ.get t) else none
 | .cell t T => match look T E.zs, addrCells σ (σ.get t) with
  | some (true, zs), some cs => bif Nat.ble zs.length cs.length && (cs.take zs.length).all noRef then some (.agg (cs.take zs.length)) else none
  | some (false, _), some (d :: _) => bif noRef d then some d else none
  | _, _ => none
def resDs (E : TE) (σ : St) : List ResultVar → Option (List D)
 | [] => some []
 | r :: rs => match resD E σ r, resDs E σ rs with
  | some d, some ds => some (d :: ds)
  | _, _ => none
def tupD : List D → D
 | [d] => d
 | ds => .tup ds
def endK (E : TE) (rs : List ResultVar) (R : D → Prop) (e : Ex) (σ : St) : Prop := match e with
 | .exit _ => False
 | _ => withPubs 12 σ (resCells E σ rs) fun _ σ => match resDs E σ rs with
  | some ds => R (tupD ds)
  | none => False
def fnD (P : Program) (E : TE) (A : Ann) (rs : List ResultVar) (body : Code) (args : List D) (R : D → Prop) : Prop := den P E A body 0 (St.init args) (endK E rs R)
theorem zbj (j : Nat) : ∀ (ds : List D) (i : Nat), look j (argFr i ds) = if i ≤ j then ds[j - i]? else none
 | [], i => by simp [argFr, look]
 | d :: ds, i => by
  unfold argFr
  rw [zd, zbj j ds (i + 1)]
  by_cases h1 : i = j
  ·subst h1; simp
  ·rw [if_neg h1]
   by_cases h2 : i ≤ j
   ·rw [if_pos (by omega), if_pos h2, show j - i = (j - (i + 1)) + 1 by omega, List.getElem?_cons_succ]
   ·rw [if_neg (by omega), if_neg h2]
theorem zcj (args : List D) (i : Nat) : (St.init args).get i = D.or args[i]? := by
 unfold St.get St.init
 rw [zbj]; simp
def resSem (a : Act) : ResultVar → Sem Value
 | .tmp t => pure (a.tmps.getD t undef)
 | .cell x t => do loadVar t (← asAddr (a.tmps.getD x undef))
theorem res_run (F : Facts P E) (m : MtB P b0 N σ a w S pl) : ∀ (rs : List ResultVar) (ds : List D), resDs E σ rs = some ds → ∃ vs : List Value, (rs.mapM (resSem a)).run P w = .ok vs w ∧ All2 (Rp w S) vs ds
 | [], ds, h => by injection h with h; subst h; exact ⟨[], by simp, .nil⟩
 | r :: rs, ds, h => by
  unfold resDs at h
  split at h
  ·rename_i d ds' h1 h2
   injection h with h; subst h
   obtain ⟨vs, q1, q2⟩ := res_run F m rs ds' h2
   have one : ∃ u, (resSem a r).run P w = .ok u w ∧ Rp w S u d := by
    cases r with
    | tmp t =>
     unfold resD at h1
     simp only at h1
     cases hn : noRef (σ.get t) with
     | false => rw [hn] at h1; cases h1
     | true => rw [hn] at h1; injection h1 with h1; subst h1; exact ⟨_, by simp [resSem], (m.fr t).flat (zL.1 hn)⟩
    | cell x T =>
     unfold resD at h1
     simp only at h1
     split at h1
     ·rename_i zs cs hz hc
      cases hb : Nat.ble zs.length cs.length && (cs.take zs.length).all noRef with
      | false => rw [hb] at h1; cases h1
      | true =>
       rw [hb] at h1; injection h1 with h1; subst h1
       simp only [Bool.and_eq_true] at hb
       obtain ⟨i, z, u, hi, hz', hsz, hu, hag, hzb⟩ := (F.zs T true zs hz).ex
       obtain ⟨b, off, hv, hcell⟩ := zQg m (m.fr x) hc
       obtain ⟨vs, e1, e2⟩ := list_of (Rd w S pl) b (cs.take zs.length) off fun j d hd => hcell j d (by
        rw [List.getElem?_take] at hd; split at hd
        ·exact hd
        ·cases hd)
       have hlen : vs.length = zs.length := by rw [e1.len, List.length_take]; have := Nat.le_of_ble_eq_true hb.1; omega
       have hload : (loadCells ⟨b, off, none⟩ zs.length).run P w = .ok vs.toArray w := by
        rw [← hlen]
        refine run_loadCells_list (P := P) w ⟨b, off, none⟩ vs fun j u hu => ?_
        have := e2 j u hu
        unfold Addr.add
        split
        ·rename_i e; subst e; simpa using this
        ·exact this
       have hs : (sizeOf T).run P w = .ok zs.length w := by simp [sizeOf, typeInfo, hi, hsz]
       have hr := e1.flat fun d hd => zL.1 (List.all_eq_true.1 hb.2 d hd)
       refine ⟨.agg vs.toArray, ?_, .agg _ _ (by simpa using hr.len) fun j d hd => rd_of (vs := vs.toArray) (by simpa using hr) j d hd⟩
       simp only [resSem, hv, asAddr, loadVar, Sem.run_bind, Sem.run_pure, Result.andThen_ok, zJc hu, hag, if_true, hs, hload]
     ·rename_i zs d' r' hz hc
      cases hn : noRef d' with
      | false => rw [hn] at h1; cases h1
      | true =>
       rw [hn] at h1; injection h1 with h1; subst h1
       obtain ⟨b, off, hv, hcell⟩ := zQg m (m.fr x) hc
       obtain ⟨u, hu, hr⟩ := hcell 0 d' rfl
       obtain ⟨i, z, ud, hi, hz', hsz, hud, hag, hzb⟩ := (F.zs T false zs hz).ex
       refine ⟨u, ?_, hr.flat (zL.1 hn)⟩
       have hld : (load ⟨b, off, none⟩).run P w = .ok u w := by
        have : w.cell? ⟨b, off, none⟩ = some u := hu
        simp only [load, Sem.run, this]
       simp only [resSem, hv, asAddr, loadVar, Sem.run_bind, Sem.run_pure, Result.andThen_ok, zJc hud, hag, Bool.false_eq_true, if_false, hld]
     ·cases h1
   obtain ⟨u, e1, e2⟩ := one
   exact ⟨u :: vs, by rw [List.mapM_cons]; simp only [Sem.run_bind, e1, Result.andThen_ok, q1, Sem.run_pure], .cons e2 q2⟩
  ·cases h
def okL {α : Type} (bytes : Nat) (p : α → Prop) (xs : List α) : Prop := xs.length * bytes ≤ 140737488355328 ∧ ∀ x ∈ xs, p x
def okS (s : ByteArray) : Prop := s.size ≤ 140737488355328
def okLit (x : LitD) : Prop := inI64 x.var ∧ inI64 x.op ∧ inI64 x.n
def okVar (x : VarD) : Prop := okS x.name ∧ inI64 x.lo ∧ inI64 x.hi
def okCon (x : ConD) : Prop := inI64 x.kind ∧ inI64 x.n ∧ okL 8 inI64 x.vars ∧ okL 8 inI64 x.consts ∧ okL 24 (okL 8 inI64) x.rows ∧ okL 24 okLit x.lits
def okMdl (x : MdlD) : Prop := inI64 x.goal ∧ inI64 x.var ∧ okL 32 okVar x.vars ∧ okL 112 okCon x.cons
def okStep (x : StepD) : Prop := inI64 x.kind ∧ inI64 x.con ∧ okL 24 okLit x.clause
def okT : (t : Ty) → t.den → Prop
 | .int, n => inI64 n
 | .bool, _ => True
 | .str, s => okS s
 | .tok, x => inI64 x.kind ∧ inI64 x.at_ ∧ okS x.text
 | .lit, x => okLit x
 | .var, x => okVar x
 | .con, x => okCon x
 | .mdl, x => okMdl x
 | .step, x => okStep x
 | .term, x => inI64 x.v ∧ inI64 x.times
 | .ans, x => inI64 x.verdict ∧ okL 8 inI64 x.values ∧ okL 40 okStep x.proof
 | .list t, xs => okL t.bytes (okT t) xs
 | .pr a b, x => okT a x.1 ∧ okT b x.2
theorem rdV_ok {α : Type} [Rep α] {v : Value} {xs : List α} {p : α → Prop} (h : RdV w S v xs) (hp : ∀ cs x, Rep.rd w S cs x → p x) : okL (Rep.bytes α) p xs := by
 obtain ⟨A, c, rfl, h1⟩ := zi h
 refine ⟨h1.bytes, fun x hx => ?_⟩
 obtain ⟨i, hi, rfl⟩ := List.getElem_of_mem hx
 obtain ⟨b, o, cs, _, _, hr, _⟩ := rdV_at h hi
 exact hp _ _ hr
theorem rdC_ok {α : Type} [Rep α] {v : Value} {xs : List α} {p : α → Prop} (h : RdC w S [v] xs) (hp : ∀ cs x, Rep.rd w S cs x → p x) : okL (Rep.bytes α) p xs := by
 obtain ⟨A, c, rfl, _, h⟩ := zvi h
 exact rdV_ok h hp
theorem rd_int {cs : List Value} {x : Int} (h : Rep.rd w S cs x) : inI64 x := h.2
theorem rd_lit {cs : List Value} {x : LitD} (h : Rep.rd w S cs x) : okLit x := h.2
theorem rd_var {cs : List Value} {x : VarD} (h : Rep.rd w S cs x) : okVar x := h.2
theorem rd_ints {cs : List Value} {x : List Int} (h : Rep.rd w S cs x) : okL 8 inI64 x := by
 obtain ⟨A, c, rfl, h⟩ := h
 exact rdV_ok (α := Int) ⟨_, rfl, A, c, rfl, h⟩ fun _ _ => rd_int
theorem rd_con {cs : List Value} {x : ConD} (h : Rep.rd w S cs x) : okCon x := by
 obtain ⟨v1, v2, v3, v4, rfl, a, b, h1, h2, h3, h4⟩ := h
 exact ⟨a, b, rdC_ok h1 fun _ _ => rd_int, rdC_ok h2 fun _ _ => rd_int, rdC_ok h3 fun _ _ => rd_ints, rdC_ok h4 fun _ _ => rd_lit⟩
theorem rd_mdl {cs : List Value} {x : MdlD} (h : Rep.rd w S cs x) : okMdl x := by
 obtain ⟨v1, v2, rfl, a, b, h1, h2⟩ := h
 exact ⟨a, b, rdC_ok h1 fun _ _ => rd_var, rdC_ok h2 fun _ _ => rd_con⟩
theorem rd_step {cs : List Value} {x : StepD} (h : Rep.rd w S cs x) : okStep x := by
 obtain ⟨v, rfl, a, b, h1⟩ := h
 exact ⟨a, b, rdC_ok h1 fun _ _ => rd_lit⟩
theorem rd_ok : (t : Ty) → {x : t.den} → {cs : List Value} → Rep.rd w S cs x → okT t x
 | .int, x, cs, h => by exact rd_int h
 | .bool, x, cs, h => trivial
 | .str, x, cs, h => by exact h.2
 | .tok, x, cs, h => by exact h.2
 | .lit, x, cs, h => by exact rd_lit h
 | .var, x, cs, h => by exact rd_var h
 | .con, x, cs, h => by exact rd_con h
 | .mdl, x, cs, h => by exact rd_mdl h
 | .step, x, cs, h => by exact rd_step h
 | .term, x, cs, h => by exact h.2
 | .ans, x, cs, h => by
  obtain ⟨v1, v2, rfl, a, h1, h2⟩ := h
  exact ⟨a, rdC_ok h1 fun _ _ => rd_int, rdC_ok h2 fun _ _ => rd_step⟩
 | .pr a b, x, cs, h => by
  obtain ⟨c1, c2, rfl, h1, h2⟩ := h
  exact ⟨rd_ok a h1, rd_ok b h2⟩
 | .list t, xs, cs, h => by
  obtain ⟨A, c, rfl, h⟩ := h
  have := rdV_ok (α := t.den) (p := okT t) ⟨_, rfl, A, c, rfl, h⟩ fun _ _ h => rd_ok t h
  rw [← Ty.bytes_eq] at this
  exact this
def okC : D → Prop
 | .int k n => inK k n
 | .str s => okS s
 | .sl t xs => okT (.list t) xs
 | _ => True
def okD : D → Prop
 | .agg cs => ∀ c ∈ cs, okC c
 | .iptr cs _ => ∀ c ∈ cs, okC c
 | d => okC d
theorem rp_okC (h : Rp w S v d) : okC d := by
 cases h
 case int k n h => exact h
 case str s h => exact h
 case sl t xs h =>
  obtain ⟨cs, e, hr⟩ := h
  exact rd_ok (.list t) hr
 all_goals trivial
theorem rp_okD (h : Rp w S v d) : okD d := by
 cases d
 case agg cs =>
  obtain ⟨vs, _, _, hr⟩ := h.agg_inv
  intro c hc
  obtain ⟨i, hi, rfl⟩ := List.getElem_of_mem hc
  exact rp_okC (hr i _ (List.getElem?_eq_getElem hi))
 case iptr cs off =>
  obtain ⟨b, _, _, hr⟩ := h.iptr_inv
  intro c hc
  obtain ⟨i, hi, rfl⟩ := List.getElem_of_mem hc
  obtain ⟨u, _, hr⟩ := hr i _ (List.getElem?_eq_getElem hi)
  exact rp_okC hr
 all_goals exact rp_okC h
theorem sat_of (F : Facts P E) {f : FuncId} {fn : Func} {body : Code} {args : List D} {r : D} (hf : P.funcs[f]? = some fn) (hb : fn.body = some body) (hn : A.n = fn.ntmps) (hle : args.length ≤ fn.ntmps)
  (h : (∀ d ∈ args, okD d) → fnD P E A fn.results.toList body args fun d => d = r) : Sat P f args r := by
 intro w S vs hS hl hv hg
 have hok : ∀ d ∈ args, okD d := fun d hd => by
  obtain ⟨i, hi, rfl⟩ := List.getElem_of_mem hd
  exact rp_okD (hv i _ (List.getElem?_eq_getElem hi))
 refine calls_of_wp hf hb ?_
 have m0 : MtB P ⟨w, S, fun _ => False, fun _ => undef⟩ A.n (St.init args) { tmps := vs ++ Array.replicate (fn.ntmps - vs.size) undef, defers := [] } w S (fun _ => undef) := by
  refine ⟨rfl, by simp; omega, fun i => ?_, (fun k o h => by cases h), hS, fun b h => .inl h, (fun k o b h => by cases h), (fun k k' o o' b h => by cases h), .of (Below.refl _ _), fun _ _ => rfl, hg⟩
  rw [zcj]
  cases hi : args[i]? with
  | none => exact zA
  | some d =>
   have hlt : i < vs.size := by rw [hl]; exact (List.getElem?_eq_some_iff.1 hi).1
   have := hv i d hi
   rw [Array.getD_eq_getD_getElem?, Array.getElem?_append_left hlt, ← Array.getD_eq_getD_getElem?]
   exact this.rd
 refine wp_mono (den_wp F body 0 _ _ _ w (h hok) ⟨_, _, m0⟩) fun e a w' hq => ?_
 obtain ⟨x, σ, he, hk, S', pl, m⟩ := hq
 have fin : (withPubs 12 σ (resCells E σ fn.results.toList) fun _ σ => match resDs E σ fn.results.toList with
   | some ds => tupD ds = r
   | none => False) → a.defers = [] ∧ ∃ v, (results fn a.tmps).run P w' = .ok v w' ∧ ∃ v', Ending.returned v = .returned v' ∧ Rp w' (fun b => S b ∨ (w.heap.size ≤ b ∧ b < w'.heap.size)) v' r ∧ Below w.heap.size w w' := by
  intro hk
  refine ⟨m.dz, ?_⟩
  obtain ⟨σ2, _, S2, hk, hS2, m2, _⟩ := zM hk m
  split at hk
  ·rename_i ds' hds
   have hr := hk
   obtain ⟨us, q1, hrd⟩ := res_run F m2 _ ds' hds
   have hsrc : ∀ b, S2 b → S b ∨ (w.heap.size ≤ b ∧ b < w'.heap.size) := fun b hb => by
    rcases m2.src b hb with h | h
    ·exact .inl h
    ·exact .inr ⟨h.resolve_left id, m2.lt b hb⟩
   have hrd' := hrd.rmono (w' := w') (fun _ _ => rfl) hsrc
   have hrun : (results fn a.tmps).run P w' = .ok (if h : us.length = 1 then us[0] else .tuple us.toArray) w' := by
    have hr0 : results fn a.tmps = (do let vs ← fn.results.mapM (resSem a); pure (if h : vs.size = 1 then vs[0] else .tuple vs)) := rfl
    rw [hr0]
    simp only [Array.mapM_eq_mapM_toList, Sem.run_bind, map_eq_pure_bind, q1, Result.andThen_ok, Sem.run_pure, List.size_toArray]
    rfl
   refine ⟨_, hrun, _, rfl, ?_, m.below.below fun _ => id⟩
   rw [← hr]
   have hlen := hrd'.len
   cases ds' with
   | nil =>
    rw [dif_neg (by simp at hlen; simp [hlen])]
    exact .tup _ _ (by simpa using hlen) fun i d hd => by simp at hd
   | cons d1 rest =>
    cases rest with
    | nil =>
     have h1 : us.length = 1 := by simpa using hlen
     rw [dif_pos h1]
     exact hrd'.get_ 0 _ d1 (List.getElem?_eq_getElem (by omega)) rfl
    | cons d2 rest =>
     rw [dif_neg (by rw [hlen]; simp)]
     exact .tup _ _ (by simpa using hlen) fun i d hd => rd_of (vs := us.toArray) (by simpa using hrd') i d hd
  ·exact hk.elim
 cases e <;> simp only [exOf, Option.some.injEq, reduceCtorEq] at he <;> subst he
 ·exact fin hk
 ·exact hk.elim
 ·exact fin hk
def numE : Nat → List Nat → List (Nat × Nat)
 | _, [] => []
 | i, k :: r => bif Nat.ble 1000 k && Nat.blt k 3000 then (k, k) :: numE i r else (k, 3000 + i) :: numE (i + 1) r
def endChk (ρ : List (Nat × Nat)) : Bool := nodupB (ρ.map (·.1)) && nodupB (ρ.map (·.2)) && ρ.all fun x => !stabK x.2 || Nat.beq x.1 x.2
def endH (E : TE) (rs : List ResultVar) (roots : List D) (own : Bool) (R : D → List (Nat × HObj) → Prop) (e : Ex) (σ : St) : Prop := match e with
 | .exit _ => False
 | _ => match own with
  | true => (match rs with
   | [.tmp t] => bif endChk (numE 0 (reach σ.ob 400 [] (σ.get t :: roots))) then R ((σ.get t).ren (numE 0 (reach σ.ob 400 [] (σ.get t :: roots)))) (picked σ.ob (numE 0 (reach σ.ob 400 [] (σ.get t :: roots))) (numE 0 (reach σ.ob 400 [] (σ.get t :: roots)))) else False
   | _ => False)
  | false => withPubs 12 σ (resCells E σ rs) fun _ σ => match resDs E σ rs with
   | some ds => bif endChk (numE 0 (reach σ.ob 400 [] roots)) then R (tupD ds) (picked σ.ob (numE 0 (reach σ.ob 400 [] roots)) (numE 0 (reach σ.ob 400 [] roots))) else False
   | none => False
def fnH (P : Program) (E : TE) (A : Ann) (rs : List ResultVar) (body : Code) (args : List D) (h : List (Nat × HObj)) (roots : List D) (own : Bool) (R : D → List (Nat × HObj) → Prop) : Prop := den P E A body 0 ⟨argFr 0 args, h⟩ (endH E rs roots own R)
def okO : HObj → Prop
 | .cells ds => ∀ d ∈ ds, okC d
 | .row _ t xs => okT (.list t) xs
 | .mp kt vt es => es.length ≤ 140737488355328 ∧ ∀ x ∈ es, okT kt x.1 ∧ okT vt x.2
 | .val ds => ∀ d ∈ ds, okC d
theorem rd_okC (h : Rd w S pl v d) : okC d := by
 cases hr : d.ref with
 | none => exact rp_okC (h.flat hr)
 | some k => cases d <;> first | trivial | (simp [D.ref] at hr)
theorem rd_okD (h : Rd w S pl v d) : okD d := by
 cases hr : d.ref with
 | none => exact rp_okD (h.flat hr)
 | some k => cases d <;> first | trivial | (simp [D.ref] at hr)
theorem ob_ok {p : Value} {ob : HObj} (h : ObOk w S pl p ob) : okO ob := by
 cases ob with
 | cells ds =>
  obtain ⟨b, vs, T, _, _, _, h⟩ := h
  intro d hd
  obtain ⟨i, hi, rfl⟩ := List.getElem_of_mem hd
  exact rd_okC (h i _ (List.getElem?_eq_getElem hi))
 | val ds =>
  obtain ⟨vs, _, _, h⟩ := h
  intro d hd
  obtain ⟨i, hi, rfl⟩ := List.getElem_of_mem hd
  exact rd_okC (h i _ (List.getElem?_eq_getElem hi)).1
 | row e t xs =>
  obtain ⟨cs, _, hr⟩ := row_rdV h
  exact rd_ok (.list t) hr
 | mp kt vt es =>
  obtain ⟨b, _, h0, ents, clock, _, h⟩ := h
  refine ⟨h0, fun x hx => ?_⟩
  obtain ⟨i, hi, rfl⟩ := List.getElem_of_mem hx
  obtain ⟨e, _, ⟨_, _, h1⟩, ⟨_, _, h2⟩⟩ := h.at (List.getElem?_eq_getElem hi)
  exact ⟨rd_ok kt h1, rd_ok vt h2⟩
theorem satH_of (F : Facts P E) {f : FuncId} {fn : Func} {body : Code} {args roots : List D} {hp hp' : List (Nat × HObj)} {own : Bool} {r : D} (hf : P.funcs[f]? = some fn) (hb : fn.body = some body) (hn : A.n = fn.ntmps) (hle : args.length ≤ fn.ntmps)
  (h : (∀ d ∈ args, okD d) → (∀ k o, look k hp = some o → okO o) → fnH P E A fn.results.toList body args hp roots own fun d h' => d = r ∧ h' = hp') : SatH P f args hp r hp' := by
 intro w S vs pl0 hS hl hv hh hg
 have hok : ∀ d ∈ args, okD d := fun d hd => by
  obtain ⟨i, hi, rfl⟩ := List.getElem_of_mem hd
  exact rd_okD (hv i _ (List.getElem?_eq_getElem hi))
 have hok2 : ∀ k o, look k hp = some o → okO o := fun k o hk => ob_ok (hh.ok k o hk)
 refine calls_of_wp hf hb ?_
 have m0 : MtB P ⟨w, S, HBlk pl0 hp, pl0⟩ A.n ⟨argFr 0 args, hp⟩ { tmps := vs ++ Array.replicate (fn.ntmps - vs.size) undef, defers := [] } w S pl0 := by
  refine ⟨rfl, by simp; omega, fun i => ?_, hh.ok, hS, fun b h => .inl h, (fun k o b h hb => ⟨.inl ⟨k, o, h, hb⟩, hh.priv k o b h hb⟩), hh.inj, .of (Below.refl _ _), fun _ _ => rfl, hg⟩
  rw [show (⟨argFr 0 args, hp⟩ : St).get i = (St.init args).get i from rfl, zcj]
  cases hi : args[i]? with
  | none => exact zA
  | some d =>
   have hlt : i < vs.size := by rw [hl]; exact (List.getElem?_eq_some_iff.1 hi).1
   have := hv i d hi
   rw [Array.getD_eq_getD_getElem?, Array.getElem?_append_left hlt, ← Array.getD_eq_getD_getElem?]
   exact this
 refine wp_mono (den_wp F body 0 _ _ _ w (h hok hok2) ⟨_, _, m0⟩) fun e a w' hq => ?_
 obtain ⟨x, σ, he, hk, S', pl, m⟩ := hq
 have out : ∀ {S' : Nat → Prop} {σ : St} (m : MtB P ⟨w, S, HBlk pl0 hp, pl0⟩ A.n σ a w' S' pl) (ρ : List (Nat × Nat)), endChk ρ = true → ∀ (v : Value), (results fn a.tmps).run P w' = .ok v w' → Rd w' S' (plC ρ pl) v r → picked σ.ob ρ ρ = hp' →
   ∃ v, (results fn a.tmps).run P w' = .ok v w' ∧ ∃ v' S'' pl', Ending.returned v = .returned v' ∧ Rd w' S'' pl' v' r ∧ HOk w' S'' pl' hp' ∧ (∀ b, S'' b → b < w'.heap.size) ∧ (∀ b, S'' b → S b ∨ HBlk pl0 hp b ∨ w.heap.size ≤ b) ∧
    (∀ b, HBlk pl' hp' b → HBlk pl0 hp b ∨ w.heap.size ≤ b) ∧ (∀ k, stabK k = true → pl' k = pl0 k) ∧ BelowX w.heap.size (HBlk pl0 hp) w w' := by
  intro S' σ m ρ hc v hrun hr hpk
  simp only [endChk, Bool.and_eq_true] at hc
  obtain ⟨⟨n1, n2⟩, n3⟩ := hc
  subst hpk
  refine ⟨v, hrun, v, S', plC ρ pl, rfl, hr, zLi m n1 n2, m.lt, m.src, fun b hb => ?_, fun k hk => ?_, m.below⟩
  ·obtain ⟨k, c, o, h1, h2, h3⟩ := hblk_of n2 hb
   exact (m.priv k o b h2 h3).1
  ·refine Eq.trans ?_ (m.stay k hk)
   unfold plC
   cases hl : look k (inv ρ) with
   | none => rfl
   | some k' =>
    have := List.all_eq_true.1 n3 _ (mem_inv hl)
    simp only [Bool.or_eq_true, Bool.not_eq_true'] at this
    rcases this with h | h
    ·rw [hk] at h; cases h
    ·rw [zb.1 h]
 have runv : ∀ (us : List Value), (fn.results.toList.mapM (resSem a)).run P w' = .ok us w' → (results fn a.tmps).run P w' = .ok (if h : us.length = 1 then us[0] else .tuple us.toArray) w' := fun us q1 => by
  have hr0 : results fn a.tmps = (do let vs ← fn.results.mapM (resSem a); pure (if h : vs.size = 1 then vs[0] else .tuple vs)) := rfl
  rw [hr0]
  simp only [Array.mapM_eq_mapM_toList, Sem.run_bind, map_eq_pure_bind, q1, Result.andThen_ok, Sem.run_pure, List.size_toArray]
  rfl
 have fin : endH E fn.results.toList roots own (fun d h' => d = r ∧ h' = hp') .normal σ → a.defers = [] ∧ ∃ v, (results fn a.tmps).run P w' = .ok v w' ∧ ∃ v' S'' pl', Ending.returned v = .returned v' ∧ Rd w' S'' pl' v' r ∧ HOk w' S'' pl' hp' ∧ (∀ b, S'' b → b < w'.heap.size) ∧ (∀ b, S'' b → S b ∨ HBlk pl0 hp b ∨ w.heap.size ≤ b) ∧
    (∀ b, HBlk pl' hp' b → HBlk pl0 hp b ∨ w.heap.size ≤ b) ∧ (∀ k, stabK k = true → pl' k = pl0 k) ∧ BelowX w.heap.size (HBlk pl0 hp) w w' := by
  intro hk
  refine ⟨m.dz, ?_⟩
  unfold endH at hk
  clear h he
  cases own with
  | true =>
   simp only at hk
   split at hk
   ·rename_i t hrs
    cases hc : endChk (numE 0 (reach σ.ob 400 [] (σ.get t :: roots))) with
    | false => rw [hc] at hk; exact hk.elim
    | true =>
     rw [hc, cond_true] at hk
     obtain ⟨e1, e2⟩ := hk
     have hc' := hc
     simp only [endChk, Bool.and_eq_true] at hc'
     have hrun := runv [a.tmps.getD t undef] (by rw [hrs]; simp [resSem])
     refine out m _ hc _ hrun ?_ e2
     rw [← e1]
     exact ren_rd (fun k j hj => plC_of hc'.1.2 (zU hj)) (m.fr t)
   ·exact hk.elim
  | false =>
   simp only at hk
   obtain ⟨σ2, _, S2, hk, hS2, m2, _⟩ := zM hk m
   split at hk
   ·rename_i ds' hds
    cases hc : endChk (numE 0 (reach σ2.ob 400 [] roots)) with
    | false => rw [hc] at hk; exact hk.elim
    | true =>
     rw [hc, cond_true] at hk
     obtain ⟨e1, e2⟩ := hk
     obtain ⟨us, q1, hrd⟩ := res_run F m2 _ ds' hds
     have hlen := hrd.len
     refine out m2 _ hc _ (runv us q1) ?_ e2
     rw [← e1]
     cases ds' with
     | nil =>
      rw [dif_neg (by simp at hlen; simp [hlen])]
      exact Rp.rd (.tup _ _ (by simpa using hlen) fun i d hd => by simp at hd)
     | cons d1 rest =>
      cases rest with
      | nil =>
       have h1 : us.length = 1 := by simpa using hlen
       rw [dif_pos h1]
       exact (hrd.get_ 0 _ d1 (List.getElem?_eq_getElem (by omega)) rfl).rd
      | cons d2 rest =>
       rw [dif_neg (by rw [hlen]; simp)]
       exact Rp.rd (.tup _ _ (by simpa using hlen) fun i d hd => rd_of (vs := us.toArray) (by simpa using hrd) i d hd)
   ·exact hk.elim
 cases e <;> simp only [exOf, Option.some.injEq, reduceCtorEq] at he <;> subst he
 ·exact fin hk
 ·exact hk.elim
 ·exact fin hk
end
end Go.Proofs.YtajnbkhgnppckaaGreatDoor
/- A denotation of the program's code on plain data: what the program's table says, by one test; small laws for its use. -/
namespace Go.Proofs.YtajnbkhgnppckaaGreatDoor
open Go.RowKit
set_option linter.unusedVariables false
set_option linter.unusedSimpArgs false
def chkZ (P : Program) (x : TypeId × (Bool × List D)) : Bool := match P.info? x.1, P.underlying x.1 with
 | some i, some u => (match i.zero with
  | some z => Nat.beq i.size x.2.2.length && (aggU u == x.2.1) && zBs z.cells.toList x.2.2 && (x.2.1 || Nat.beq x.2.2.length 1)
  | none => false)
 | _, _ => false
def isSl (e : TypeId) : Option TypeDesc → Bool
 | some (.slice e') => Nat.beq e' e
 | _ => false
def chkSl (P : Program) (x : TypeId × (TypeId × Ty)) : Bool := isSl x.2.1 (P.underlying x.1) && (match P.info? x.2.1 with
 | some i => Nat.beq i.size x.2.2.size && Nat.beq i.bytes x.2.2.bytes && (match i.zero with
  | some z => zBs z.cells.toList (cells x.2.2 x.2.2.dflt)
  | none => false)
 | none => false)
def eqOffs : List (Nat × Nat) → List (Nat × Nat) → Bool
 | [], [] => true
 | (a, b) :: r, (c, d) :: r' => Nat.beq a c && Nat.beq b d && eqOffs r r'
 | _, _ => false
theorem zdj : ∀ {a b : List (Nat × Nat)}, eqOffs a b = true → a = b
 | [], [], _ => rfl
 | (a, b) :: r, (c, d) :: r', h => by
  simp only [eqOffs, Bool.and_eq_true] at h
  rw [zb.1 h.1.1, zb.1 h.1.2, zdj h.2]
 | [], _ :: _, h => by cases h
 | _ :: _, [], h => by cases h
def chkFld (P : Program) (x : TypeId × List (Nat × Nat)) : Bool := match P.underlying x.1 with
 | some (.struct fs) => (match fs.toList.mapM fun f => (P.info? f.type).map fun i => (f.offset, i.size) with
  | some offs => eqOffs offs x.2 && x.2.all fun y => !Nat.beq y.2 0
  | none => false)
 | _ => false
def isStr : Option TypeDesc → Bool
 | some .string => true
 | _ => false
def isInt (k : IntKind) : Option TypeDesc → Bool
 | some (.int k') => decide (k' = k)
 | _ => false
def isBoolT : Option TypeDesc → Bool
 | some .bool => true
 | _ => false
def isStruct : Option TypeDesc → Bool
 | some (.struct _) => true
 | _ => false
def chkKey (P : Program) (kT : TypeId) : Ty → Bool
 | .int => isInt .i64 (P.underlying kT)
 | .str => isStr (P.underlying kT)
 | .pr .int .int => match P.underlying kT with
  | some (.array n e) => Nat.beq n 2 && isInt .i64 (P.underlying e) && (P.info? e).isSome && Nat.beq (P.cellsOf e) 1
  | _ => false
 | _ => false
def chkMp (P : Program) (x : TypeId × (Ty × Ty)) : Bool := match P.underlying x.1 with
 | some (.map kT eT) => chkKey P kT x.2.1 && (match P.info? eT with
  | some i => (match i.zero, cells x.2.2 x.2.2.dflt with
   | some z, [d] => zB z d && z.oneCell'
   | _, _ => false)
  | none => false)
 | _ => false
def eqFk : List (Bool × Nat) → List (Bool × Nat) → Bool
 | [], [] => true
 | x :: xs, y :: ys => (x.1 == y.1) && Nat.beq x.2 y.2 && eqFk xs ys
 | _, _ => false
theorem eqFk_eq : ∀ {xs ys : List (Bool × Nat)}, eqFk xs ys = true → xs = ys
 | [], [], _ => rfl
 | x :: xs, y :: ys, h => by
  simp only [eqFk, Bool.and_eq_true, beq_iff_eq] at h
  rw [eqFk_eq h.2, show x = y from Prod.ext h.1.1 (zb.1 h.1.2)]
 | [], _ :: _, h => by cases h
 | _ :: _, [], h => by cases h
def chkSt (P : Program) (x : TypeId × Ty) : Bool := isStruct (P.underlying x.1) && !P.stoodInHeld x.1 && !P.eqGuardType P.depth x.1 && (match fkT x.2, (P.fieldsOf x.1).toList.mapM (fkOf P) with
 | some l, some l' => eqFk l l'
 | _, _ => false)
def chkArr (P : Program) (T : TypeId) : Bool := match P.underlying T with
 | some (.array n e) => Nat.beq n 2 && (match P.info? e with
  | some i => Nat.beq i.size 1
  | none => false)
 | _ => false
def TE.chk2 (E : TE) (P : Program) : Bool := E.mps.all (chkMp P) && E.sts.all (chkSt P) && E.arr.all (chkArr P)
def TE.chk (E : TE) (P : Program) : Bool := E.zs.all (chkZ P) && E.sl.all (chkSl P) && E.fld.all (chkFld P) && E.strs.all (fun T => isStr (P.underlying T)) && E.ints.all (fun x => isInt x.2 (P.underlying x.1)) && E.bools.all fun T => isBoolT (P.underlying T)
theorem z9b {α : Type} {p : Nat × α → Bool} {l : List (Nat × α)} (h : l.all p = true) {k : Nat} {a : α} (hl : look k l = some a) : p (k, a) = true := List.all_eq_true.1 h _ (zU hl)
theorem z5d {k : Nat} : ∀ {l : List Nat}, memN k l = true → k ∈ l
 | [], h => by cases h
 | i :: r, h => by
  unfold memN at h
  cases hb : Nat.beq i k with
  | true => rw [zb.1 hb]; exact List.mem_cons_self
  | false => rw [hb, cond_false] at h; exact List.mem_cons_of_mem _ (z5d h)
theorem z9n {P : Program} {E : TE} (hm : P.follows .mixedOrders = true) (h : E.chk P = true) (h' : E.chk2 P = true) (hs : ∀ x ∈ E.sig, ∀ args w, (callFunc x.1 args).run P w = .ok (.enter x.1 args) w) (hh : ∀ x ∈ E.hsig, Ent P x.1) : Facts P E := by
 simp only [TE.chk2, Bool.and_eq_true] at h'
 obtain ⟨⟨k1, k2⟩, k3⟩ := h'
 simp only [TE.chk, Bool.and_eq_true] at h
 obtain ⟨⟨⟨⟨⟨h1, h2⟩, h3⟩, h4⟩, h5⟩, h6⟩ := h
 refine ⟨fun T ag cs hl => ?_, fun T e t hl => ?_, fun T offs hl => ?_, fun T hl => ?_, fun T k hl => ?_, fun T hl => ?_, fun f rs hl => hs (f, rs) (zU hl), fun f x hl => hh (f, x) (zU hl), fun T hl => ?_, fun T k v hl => ?_, fun T t hl => ?_, hm⟩
 ·have := z9b h1 hl
  unfold chkZ at this
  split at this
  ·rename_i i u hi hu
   split at this
   ·rename_i z hz
    simp only [Bool.and_eq_true, Bool.or_eq_true, beq_iff_eq] at this
    obtain ⟨⟨⟨q1, q2⟩, q3⟩, q4⟩ := this
    refine ⟨⟨i, z, u, hi, hz, zb.1 q1, hu, q2, q3⟩, fun hag => ?_⟩
    rcases q4 with q4 | q4
    ·rw [hag] at q4; cases q4
    ·exact zb.1 q4
   ·cases this
  ·cases this
 ·have := z9b h2 hl
  unfold chkSl at this
  simp only [Bool.and_eq_true] at this
  obtain ⟨q1, q2⟩ := this
  split at q2
  ·rename_i i hi
   simp only [Bool.and_eq_true] at q2
   split at q2
   ·rename_i z hz
    refine ⟨?_, i, z, hi, hz, zb.1 q2.1.1, zb.1 q2.1.2, q2.2⟩
    unfold isSl at q1
    split at q1
    ·rename_i e' he
     have he' : P.underlying T = some (.slice e') := he
     rw [he', zb.1 q1]
    ·cases q1
   ·have := q2.2; cases this
  ·cases q2
 ·have := z9b h3 hl
  unfold chkFld at this
  split at this
  ·rename_i fs hu
   split at this
   ·rename_i offs' ho
    simp only [Bool.and_eq_true] at this
    refine ⟨fs, hu, ?_, this.2⟩
    rw [ho, zdj this.1]
   ·cases this
  ·cases this
 ·have := List.all_eq_true.1 h4 _ (z5d hl)
  unfold isStr at this
  split at this
  ·rename_i e; exact e
  ·cases this
 ·have := z9b h5 hl
  unfold isInt at this
  split at this
  ·rename_i k' e
   have e' : P.underlying T = some (.int k') := e
   rw [e', of_decide_eq_true this]
  ·cases this
 ·have := List.all_eq_true.1 h6 _ (z5d hl)
  unfold isBoolT at this
  split at this
  ·rename_i e; exact e
  ·cases this
 ·have := List.all_eq_true.1 k3 _ (z5d hl)
  unfold chkArr at this
  split at this
  ·rename_i n e hu
   simp only [Bool.and_eq_true] at this
   split at this
   ·rename_i i hi
    obtain rfl := zb.1 this.1
    exact ⟨e, i, hu, hi, zb.1 this.2⟩
   ·cases this.2
  ·cases this
 ·have := z9b k1 hl
  unfold chkMp at this
  split at this
  ·rename_i kT eT hu
   simp only [Bool.and_eq_true] at this
   obtain ⟨q1, q2⟩ := this
   split at q2
   ·rename_i i hi
    split at q2
    ·rename_i z d hz hc
     simp only [Bool.and_eq_true] at q2
     refine ⟨kT, eT, i, z, d, hu, ?_, hi, hz, hc, q2.1, q2.2⟩
     unfold chkKey at q1
     unfold KeyK
     split at q1
     ·unfold isInt at q1
      split at q1
      ·rename_i k' e; rw [show P.underlying kT = some (.int k') from e, of_decide_eq_true q1]
      ·cases q1
     ·unfold isStr at q1
      split at q1
      ·rename_i e; exact e
      ·cases q1
     ·split at q1
      ·rename_i n e he
       simp only [Bool.and_eq_true] at q1
       obtain ⟨⟨⟨p1, p2⟩, p3⟩, p4⟩ := q1
       obtain rfl := zb.1 p1
       obtain ⟨i', hi'⟩ := Option.isSome_iff_exists.1 p3
       refine ⟨e, i', he, ?_, hi', zb.1 p4⟩
       unfold isInt at p2
       split at p2
       ·rename_i k' e'; rw [show P.underlying e = some (.int k') from e', of_decide_eq_true p2]
       ·cases p2
      ·cases q1
     ·cases q1
    ·cases q2
   ·cases q2
  ·cases this
 ·have := z9b k2 hl
  simp only [chkSt, Bool.and_eq_true, Bool.not_eq_true'] at this
  obtain ⟨⟨⟨q1, q2⟩, q3⟩, q4⟩ := this
  have hst : P.underlying T = some (.struct (P.fieldsOf T)) := by
   unfold isStruct at q1
   split at q1
   ·rename_i fs e
    have e : P.underlying T = some (.struct fs) := e
    unfold Program.fieldsOf
    rw [e]
   ·cases q1
  split at q4
  ·rename_i l l' e1 e2
   exact ⟨hst, q2, q3, l, e1, by rw [e2, eqFk_eq q4]⟩
  ·cases q4
def bodyOf (f : Func) : Code := match f.body with
 | some c => c
 | none => .skip
abbrev at' (t : Ty) (xs : List t.den) (i : Nat) : t.den := xs.getD i t.dflt
theorem za {b : Bool} {X Y : Prop} (h1 : b = true → X) (h2 : b = false → Y) : sel b X Y := by
 cases b
 ·exact h2 rfl
 ·exact h1 rfl
theorem call1 {P : Program} {f : FuncId} {args : List D} {t : Ty} {K : t.den → Prop} {x : t.den} (h : Sat P f args (toD t x)) (hk : K x) : Call1 P f args t K := ⟨x, h, hk⟩
theorem call2 {P : Program} {f : FuncId} {args : List D} {t u : Ty} {K : t.den → u.den → Prop} {x : t.den} {y : u.den} (h : Sat P f args (.tup [toD t x, toD u y])) (hk : K x y) : Call2 P f args t u K := ⟨x, y, h, hk⟩
end Go.Proofs.YtajnbkhgnppckaaGreatDoor
