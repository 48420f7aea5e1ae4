/- A slice that the call itself builds by append, read as a Lean list: 'Own'; the walk's laws for append of one element and of a whole slice. -/
import Derived.Test.YtonkbljpcgadlaaLib
import Derived.Maps.AppendAt
import Derived.Deep.AppendLies
import Derived.OwnWalk
namespace Go.Proofs.Ytonkbljpcgadlaa
open Go.RowKit
set_option linter.unusedVariables false

theorem flat_at {s : Nat} : ∀ (css : List (List Value)) (_ : ∀ cs ∈ css, cs.length = s) (i j : Nat) (cs : List Value) (u : Value), css[i]? = some cs → cs[j]? = some u → css.flatten[i * s + j]? = some u
  | [], _, i, j, cs, u, h, _ => by simp at h
  | c :: css, hl, 0, j, cs, u, h, hu => by
    simp at h; subst h
    have hj : j < c.length := (List.getElem?_eq_some_iff.1 hu).1
    simp only [List.flatten_cons, Nat.zero_mul, Nat.zero_add]
    rw [List.getElem?_append_left hj]; exact hu
  | c :: css, hl, i + 1, j, cs, u, h, hu => by
    have hc : c.length = s := hl c (by simp)
    have ih := flat_at css (fun cs hcs => hl cs (by simp [hcs])) i j cs u (by simpa using h) hu
    simp only [List.flatten_cons]
    rw [List.getElem?_append_right (by rw [hc, Nat.succ_mul]; omega)]
    rw [← ih]; congr 1; rw [hc, Nat.succ_mul]; omega

theorem flat_len {s : Nat} : ∀ (css : List (List Value)) (_ : ∀ cs ∈ css, cs.length = s), css.flatten.length = css.length * s
  | [], _ => by simp
  | c :: css, hl => by
    have ih := flat_len css (fun cs hcs => hl cs (by simp [hcs]))
    simp only [List.flatten_cons, List.length_append, List.length_cons, ih, hl c (by simp), Nat.succ_mul]; omega

/-- What a slice type's elements are, off the program's table. -/
structure RowInfo (P : Program) (t e : TypeId) (size bytes : Nat) : Prop where
  und : P.underlying t = some (.slice e)
  info : ∃ i z, P.info? e = some i ∧ i.zero = some z ∧ i.size = size ∧ i.bytes = bytes ∧ z.cells.size = size

theorem RowInfo.mk' {P : Program} {t e : TypeId} {size bytes : Nat} {z : Value} (h : P.underlying t = some (.slice e)) (hi : (P.info? e).map (fun i => (i.zero, i.size, i.bytes)) = some (some z, size, bytes)) (hz : z.cells.size = size) : RowInfo P t e size bytes := by
  obtain ⟨i, h1, h2, h3, h4⟩ := info_parts hi
  exact ⟨h, i, z, h1, h2, h3, h4, hz⟩

/-- Where the elements of an owned row may lie: not in the row itself. -/
def OwnS (w : World) (lo : Nat) (v : Value) (b : Nat) : Prop := lo ≤ b ∧ b < w.heap.size ∧ v.ownBlock ≠ some b

/-- The slice v, made by the call (its blocks from 'base' on), reads as xs; what its elements lead to lies from 'lo' on, outside the row. -/
def Own {α : Type} [Rep α] (w : World) (lo base : Nat) (E : TypeId) (v : Value) (xs : List α) : Prop :=
  lo ≤ base ∧ xs.length * Rep.bytes α ≤ 140737488355328 ∧ ∃ css : List (List Value), css.length = xs.length ∧ w.ownsRow base E (Rep.size α) v xs.length css.flatten ∧
    (∀ cs ∈ css, cs.length = Rep.size α) ∧ ∀ (i : Nat) (x : α) (cs : List Value), xs[i]? = some x → css[i]? = some cs → Rep.rd w (OwnS w lo v) cs x

section
variable {α : Type} [Rep α] {w w' : World} {lo base : Nat} {E : TypeId} {v : Value} {xs : List α}

theorem Own.nil (w : World) {lo base : Nat} (E : TypeId) (hlo : lo ≤ base) : Own w lo base E (.slice none 0 0) ([] : List α) :=
  ⟨hlo, by simp, [], rfl, by simpa using World.ownsRow_nil w base E (Rep.size α), by simp, by simp⟩

theorem Own.lt (h : Own w lo base E v xs) {k : Nat} (hk : v.ownBlock = some k) : base ≤ k ∧ k < w.heap.size := by
  obtain ⟨_, _, css, _, h3, _⟩ := h
  exact h3.lt k hk

/-- Shape of the value. -/
theorem Own.shape (h : Own w lo base E v xs) : ∃ A c, v = .slice A xs.length c := by
  obtain ⟨_, _, css, _, h3, _⟩ := h
  rcases h3.2 with ⟨rfl, h0⟩ | ⟨g, cap, cur, rfl, _⟩
  · rw [h0]; exact ⟨_, _, rfl⟩
  · exact ⟨_, _, rfl⟩

/-- Writes elsewhere. -/
theorem Own.kept (h : Own w lo base E v xs) (hs : w.heap.size ≤ w'.heap.size) (hk : ∀ b, lo ≤ b → b < w.heap.size → w'.heap[b]? = w.heap[b]?) : Own w' lo base E v xs := by
  obtain ⟨h1, h2, css, h3, h4, h5, h6⟩ := h
  refine ⟨h1, h2, css, h3, ⟨h4.1, ?_⟩, h5, fun i x cs hx hc => Rep.mono (h6 i x cs hx hc) (fun b hb => hk b hb.1 hb.2.1) (fun b hb => ⟨hb.1, by have := hb.2.1; omega, hb.2.2⟩)⟩
  rcases h4.2 with hn | ⟨g, cap, cur, rfl, hb, hg, rest⟩
  · exact .inl hn
  · exact .inr ⟨g, cap, cur, rfl, hb, by rw [hk g (by omega) (Array.getElem?_eq_some_iff.1 hg).1]; exact hg, rest⟩

theorem Own.below (h : Own w lo base E v xs) (hb : Below w.heap.size w w') : Own w' lo base E v xs := h.kept hb.size fun b _ hb' => hb.block b hb'
theorem Own.alloc (h : Own w lo base E v xs) (o : Obj) : Own (w.alloc o) lo base E v xs := h.kept (by simp) fun b _ hb => Below.heap_alloc w o b hb
theorem Own.drew (h : Own w lo base E v xs) : Own w.drew lo base E v xs := h.kept (Nat.le_refl _) fun _ _ _ => rfl
theorem Own.drewN (h : Own w lo base E v xs) (n : Nat) : Own (w.drewN n) lo base E v xs := h.kept (Nat.le_refl _) fun _ _ _ => rfl

/-- What has been built, as a reading. -/
theorem Own.rdV (h : Own w lo base E v xs) : RdV w (fun b => lo ≤ b ∧ b < w.heap.size) v xs := by
  obtain ⟨h1, h2, css, h3, h4, h5, h6⟩ := h
  rcases h4.2 with ⟨rfl, h0⟩ | ⟨g, cap, cur, rfl, hb, hg, hcap, hmax, hcur, htake⟩
  · obtain rfl := List.eq_nil_of_length_eq_zero h0
    exact ⟨[.slice none 0 0], rfl, none, 0, rfl, by simp, by simp, by simp, fun _ => rfl, fun hn => absurd hn (by simp)⟩
  · refine ⟨[_], rfl, some ⟨g, 0, none⟩, cap, rfl, h2, hcap, hmax, (fun e => by cases e), fun hn => ?_⟩
    refine ⟨g, 0, rfl, ⟨by omega, (Array.getElem?_eq_some_iff.1 hg).1⟩, fun i x hx => ?_⟩
    have hi : i < xs.length := (List.getElem?_eq_some_iff.1 hx).1
    have hc : css[i]? = some (css[i]'(by omega)) := List.getElem?_eq_getElem (by omega)
    refine ⟨_, Rep.mono (h6 i x _ hx hc) (fun _ _ => rfl) (fun b hb => ⟨hb.1, hb.2.1⟩), fun j u hu => ?_⟩
    have hf := flat_at css h5 i j _ u hc hu
    have := h4.cells (g := g) rfl _ _ hf
    rw [← this]
    unfold Addr.add
    split
    · rename_i e; simp [e]
    · simp
theorem Own.rds (h : Own w lo base E v xs) : Rds w v xs := RdV.mono h.rdV (fun _ _ => rfl) fun _ hb => hb.2
theorem Own.fresh (h : Own w lo base E v xs) : Fresh w lo v xs := h.rdV
theorem Own.bytes (h : Own w lo base E v xs) : xs.length * Rep.bytes α ≤ 140737488355328 := h.2.1
theorem Own.more (h : Own w lo base E v xs) {lo' : Nat} (hlo : lo' ≤ lo) : Own w lo' base E v xs := by
  obtain ⟨h1, h2, css, h3, h4, h5, h6⟩ := h
  exact ⟨by omega, h2, css, h3, h4, h5, fun i x cs hx hc => Rep.mono (h6 i x cs hx hc) (fun _ _ => rfl) (fun b hb => ⟨by have := hb.1; omega, hb.2.1, hb.2.2⟩)⟩

theorem Own.base_le (h : Own w lo base E v xs) (hb : base ≤ w.heap.size) {B : Nat} (hB : B ≤ base) {k : Nat} (hk : v.ownBlock = some k) : B ≤ k := by
  have := (h.lt hk).1; omega

/-- The step of append, on readings. -/
theorem Own.appended {P : Program} {t : TypeId} (hown : Own w lo base E v xs) (hbase : base ≤ w.heap.size) {v' : Value} {ys : List α} {ccs : List (List Value)} (hl : ccs.length = ys.length)
    (hcl : ∀ cs ∈ ccs, cs.length = Rep.size α) (hcs : ∀ (i : Nat) (x : α) (cs : List Value), ys[i]? = some x → ccs[i]? = some cs → Rep.rd w (OwnS w lo v) cs x) (hb : (xs.length + ys.length) * Rep.bytes α ≤ 140737488355328)
    (css : List (List Value)) (h3 : css.length = xs.length) (h5 : ∀ cs ∈ css, cs.length = Rep.size α) (h6 : ∀ (i : Nat) (x : α) (cs : List Value), xs[i]? = some x → css[i]? = some cs → Rep.rd w (OwnS w lo v) cs x)
    (ho : w'.ownsRow base E (Rep.size α) v' (xs.length + ys.length) (css.flatten ++ ccs.flatten)) (hg : w.grownBy w' v.ownBlock) (hat : v'.ownBlock = v.ownBlock ∨ v'.ownBlock = some w.heap.size) :
    Own w' lo base E v' (xs ++ ys) := by
  refine ⟨hown.1, by simpa using hb, css ++ ccs, by simp [h3, hl], by simpa using ho, fun cs hc => ?_, fun i x cs hx hc => ?_⟩
  · rcases List.mem_append.1 hc with h | h
    · exact h5 cs h
    · exact hcl cs h
  · have key : Rep.rd w (OwnS w lo v) cs x := by
      by_cases hi : i < xs.length
      · rw [List.getElem?_append_left hi] at hx
        rw [List.getElem?_append_left (by omega)] at hc
        exact h6 i x cs hx hc
      · rw [List.getElem?_append_right (by omega)] at hx
        rw [List.getElem?_append_right (by omega), h3] at hc
        exact hcs _ x cs hx hc
    refine Rep.mono key (fun b hb => hg.block b hb.2.1 (fun e => hb.2.2 e.symm)) (fun b hb => ⟨hb.1, by have := hg.size; have := hb.2.1; omega, ?_⟩)
    rcases hat with e | e <;> rw [e]
    · exact hb.2.2
    · intro e'; injection e' with e'; have := hb.2.1; omega
end

section
variable {P : Program} {α : Type} [Rep α]

theorem cells_new (w : World) (cs : List Value) (E : TypeId) : ∀ j u, cs[j]? = some u → (w.alloc (.cells cs.toArray E)).cell? ((⟨w.heap.size, 0, none⟩ : Addr).add j) = some u := by
  intro j u hu
  have e : (⟨w.heap.size, 0, none⟩ : Addr).add j = ⟨w.heap.size, j, none⟩ := by unfold Addr.add; split <;> simp_all
  rw [e, World.cell?_alloc_new]
  simpa using hu

/-- The walk at 'out = append(out, x)': x was just laid in a block of its own. -/
theorem wpList_append_one {ops : Array Oper} {rest : List Oper} {o : Oper} {a : Act} {Q : Exit → Act → World → Prop} {w : World} {lo base : Nat} {E t : TypeId} {v : Value} {xs : List α} {cs : List Value} {y : α}
    (hgd : o.guard = none) (s x : Operand) (ho : o.op = .call { callee := .builtin .append, args := #[s, x], argTypes := #[t, t] })
    (hr : RowInfo P t E (Rep.size α) (Rep.bytes α)) (hs : a.eval s = v) (hown : Own w lo base E v xs) {g : Nat} (hx : a.eval x = .slice (some ⟨g, 0, none⟩) 1 1) (hgs : g = w.heap.size)
    (hy : RdC w (OwnS w lo v) cs y) (hb : (xs.length + 1) * Rep.bytes α ≤ 140737488355328) (hm : xs.length + 1 ≤ 9223372036854775807) (hbase : base ≤ w.heap.size)
    (h : ∀ v' w', Own w' lo base E v' (xs ++ [y]) → w.grownBy w' v.ownBlock → Below base w w' → wpList P ops Q rest (a.put o.dst v') w') :
    wpList P ops Q (o :: rest) a (w.alloc (.cells cs.toArray E)) := by
  subst hgs
  obtain ⟨hu, i, z, hi, hz, hsz, hby, hzs⟩ := hr
  obtain ⟨h1, h2, css, h3, h4, h5, h6⟩ := hown
  have hlen : cs.length = Rep.size α := Rep.len hy
  obtain ⟨v', w', hrun, k1, k2, _, k3⟩ := run_append_own_at (P := P) (w.alloc (.cells cs.toArray E)) base t o.type E i z (Rep.size α) (Rep.bytes α) hu hi hz hsz hby hzs Rep.pos v xs.length css.flatten (h4.alloc _)
    ⟨w.heap.size, 0, none⟩ 1 1 cs (by simpa using hlen) (cells_new w cs E) (Rep.one hy) (by unfold maxLen; omega) hb (by simp; omega)
  have hown' : Own (w.alloc (.cells cs.toArray E)) lo base E v xs := Own.alloc ⟨h1, h2, css, h3, h4, h5, h6⟩ _
  have mono : ∀ {cs' : List Value} {x' : α}, Rep.rd w (OwnS w lo v) cs' x' → Rep.rd (w.alloc (.cells cs.toArray E)) (OwnS (w.alloc (.cells cs.toArray E)) lo v) cs' x' := fun hh =>
    Rep.mono hh (fun b hb => Below.heap_alloc w _ b hb.2.1) (fun b hb => ⟨hb.1, by simp; have := hb.2.1; omega, hb.2.2⟩)
  have hfin : Own w' lo base E v' (xs ++ [y]) := Own.appended (P := P) (t := t) hown' (by simp; omega) (ccs := [cs]) (ys := [y]) rfl (by simpa using hlen)
    (fun j x' cs' hx' hc' => by
      rcases j with _ | j
      · simp at hx' hc'; subst hx' hc'; exact mono hy
      · simp at hx') (by simpa using hb) css h3 h5 (fun j x' cs' hx' hc' => mono (h6 j x' cs' hx' hc')) (by simpa using k1) k2 k3
  have hgw : w.grownBy w' v.ownBlock := ⟨k2.os, k2.tape, k2.output, by have := k2.size; simp at this; omega, fun b hb hne => (k2.block b (by simp; omega) hne).trans (Below.heap_alloc w _ b hb)⟩
  have hbl : Below base w w' := (Below.refl _ _).grown hgw hbase (fun k hk => (h4.lt k hk).1)
  refine wpList_plain hgd fun K hK => ?_
  unfold Oper.wp execOp
  simp only [ho, resolve, invoke, builtin, Sem.run_bind, Sem.run_pure, Result.andThen_ok, List.map_toArray, List.map_cons, List.map_nil, hs, hx, hrun]
  exact hK _ _ (h v' w' hfin hgw hbl)

/-- The walk at 'out = append(out, ys...)'. -/
theorem wpList_append_all {ops : Array Oper} {rest : List Oper} {o : Oper} {a : Act} {Q : Exit → Act → World → Prop} {w : World} {lo base : Nat} {E t : TypeId} {v u : Value} {xs ys : List α}
    (hgd : o.guard = none) (s x : Operand) (ho : o.op = .call { callee := .builtin .append, args := #[s, x], argTypes := #[t, t] })
    (hr : RowInfo P t E (Rep.size α) (Rep.bytes α)) (hs : a.eval s = v) (hown : Own w lo base E v xs) (hx : a.eval x = u)
    (hy : RdV w (OwnS w lo v) u ys) (hb : (xs.length + ys.length) * Rep.bytes α ≤ 140737488355328) (hm : xs.length + ys.length ≤ 9223372036854775807) (hbase : base ≤ w.heap.size)
    (h : ∀ v' w', Own w' lo base E v' (xs ++ ys) → w.grownBy w' v.ownBlock → Below base w w' → wpList P ops Q rest (a.put o.dst v') w') :
    wpList P ops Q (o :: rest) a w := by
  obtain ⟨hu, i, z, hi, hz, hsz, hby, hzs⟩ := hr
  have hown0 := hown
  obtain ⟨h1, h2, css, h3, h4, h5, h6⟩ := hown
  obtain ⟨ucs, rfl, A, c, rfl, k0, k1, k2, k3, k4⟩ := hy
  simp only [vOf] at hx
  -- the cells of the source
  have hsrc : ∃ ccs : List (List Value), ccs.length = ys.length ∧ (∀ cs ∈ ccs, cs.length = Rep.size α) ∧ (∀ (i : Nat) (x : α) (cs : List Value), ys[i]? = some x → ccs[i]? = some cs → Rep.rd w (OwnS w lo v) cs x) ∧
      (0 < ys.length → ∃ b o, A = some ⟨b, o, none⟩ ∧ ∀ j u, ccs.flatten[j]? = some u → w.cell? ⟨b, o + j, none⟩ = some u) := by
    by_cases hn : 0 < ys.length
    · obtain ⟨b, o', hA, hb', hc⟩ := k4 hn
      have hc' : ∀ i : Fin ys.length, ∃ cs, Rep.rd w (OwnS w lo v) cs ys[i] ∧ ∀ j u, cs[j]? = some u → w.cell? ⟨b, o' + i * Rep.size α + j, none⟩ = some u := fun i => hc i _ (List.getElem?_eq_getElem i.2)
      let f : Fin ys.length → List Value := fun i => (hc' i).choose
      have hf : ∀ i, Rep.rd w (OwnS w lo v) (f i) ys[i] ∧ ∀ j u, (f i)[j]? = some u → w.cell? ⟨b, o' + i * Rep.size α + j, none⟩ = some u := fun i => (hc' i).choose_spec
      have hl : ∀ cs ∈ List.ofFn f, cs.length = Rep.size α := fun cs hcs => by
        obtain ⟨i, rfl⟩ := List.mem_ofFn.1 hcs
        exact Rep.len (hf i).1
      refine ⟨List.ofFn f, by simp, hl, fun i x cs hx hcs => ?_, fun _ => ⟨b, o', hA, fun j u hu => ?_⟩⟩
      · have hi : i < ys.length := (List.getElem?_eq_some_iff.1 hx).1
        rw [List.getElem?_eq_getElem hi] at hx
        have : cs = f ⟨i, hi⟩ := by simpa [List.getElem?_ofFn, hi] using hcs.symm
        subst this
        injection hx with hx
        rw [← hx]; exact (hf ⟨i, hi⟩).1
      · have hjl : j < (List.ofFn f).flatten.length := (List.getElem?_eq_some_iff.1 hu).1
        rw [flat_len _ hl, List.length_ofFn] at hjl
        have hpos : 0 < Rep.size α := Rep.pos
        have hq : j / Rep.size α < ys.length := Nat.div_lt_of_lt_mul (by rw [Nat.mul_comm]; exact hjl)
        have hmod : j % Rep.size α < Rep.size α := Nat.mod_lt _ hpos
        have hfl : (f ⟨j / Rep.size α, hq⟩).length = Rep.size α := Rep.len (hf ⟨j / Rep.size α, hq⟩).1
        have he := flat_at (List.ofFn f) hl (j / Rep.size α) (j % Rep.size α) (f ⟨j / Rep.size α, hq⟩) ((f ⟨j / Rep.size α, hq⟩)[j % Rep.size α]'(by omega)) (by simp [hq]) (List.getElem?_eq_getElem _)
        have hdm : j / Rep.size α * Rep.size α + j % Rep.size α = j := by rw [Nat.mul_comm]; exact Nat.div_add_mod _ _
        rw [hdm] at he
        rw [hu] at he
        injection he with he
        have := (hf ⟨j / Rep.size α, hq⟩).2 (j % Rep.size α) u (by rw [he]; exact List.getElem?_eq_getElem _)
        simpa [Nat.add_assoc, hdm] using this
    · have : ys = [] := List.eq_nil_of_length_eq_zero (by omega)
      subst this
      exact ⟨[], rfl, by simp, by simp, fun h => absurd h (by simp)⟩
  obtain ⟨ccs, hcl, hcs, hcr, hcell⟩ := hsrc
  have hrun : ∃ v' w', (Builtin.append_ #[t, t] o.type #[v, .slice A ys.length c]).run P w = .ok v' w' ∧ w'.ownsRow base E (Rep.size α) v' (xs.length + ys.length) (css.flatten ++ ccs.flatten) ∧ w.grownBy w' v.ownBlock ∧ (v'.ownBlock = v.ownBlock ∨ v'.ownBlock = some w.heap.size) := by
    by_cases hn : 0 < ys.length
    · obtain ⟨b, o', rfl, hc⟩ := hcell hn
      obtain ⟨v', w', q1, q2, q3, _, q4⟩ := run_append_own_at (P := P) w base t o.type E i z (Rep.size α) (Rep.bytes α) hu hi hz hsz hby hzs Rep.pos v xs.length css.flatten h4 ⟨b, o', none⟩ ys.length c ccs.flatten (by rw [flat_len _ hcs, hcl])
        (fun j u hu => by
          have := hc j u hu
          unfold Addr.add
          split
          · rename_i e; subst e; simpa using this
          · exact this)
        (fun u hu => by
          obtain ⟨cs, hcs', hu'⟩ := List.mem_flatten.1 hu
          obtain ⟨j, hj, hje⟩ := List.getElem_of_mem hcs'
          exact Rep.one (hcr j (ys[j]'(by omega)) cs (List.getElem?_eq_getElem (by omega)) (by rw [← hje]; exact List.getElem?_eq_getElem hj)) u hu')
        (by unfold maxLen; omega) hb hbase
      exact ⟨v', w', q1, q2, q3, q4⟩
    · have : ys = [] := List.eq_nil_of_length_eq_zero (by omega)
      subst this
      have : ccs = [] := List.eq_nil_of_length_eq_zero (by simpa using hcl)
      subst this
      rcases A with _ | ad
      · refine ⟨v, w, ?_, by simpa using h4, World.grownBy.refl w _, .inl rfl⟩
        rcases h4.2 with ⟨rfl, e0⟩ | ⟨g, cap, cur, rfl, _, _, hnc, _⟩
        · simp [Builtin.append_, run_underlying hu, sizeOf, typeInfo, hi, Builtin.lenOf, Builtin.firstCells]
        · simp [Builtin.append_, run_underlying hu, sizeOf, typeInfo, hi, Builtin.lenOf, Builtin.firstCells, hnc, storeCells]
      · obtain ⟨v', w', q1, q2, q3, _, q4⟩ := run_append_own_at (P := P) w base t o.type E i z (Rep.size α) (Rep.bytes α) hu hi hz hsz hby hzs Rep.pos v xs.length css.flatten h4 ad 0 c [] (by simp) (by simp) (by simp) (by unfold maxLen; simp at hm; omega) (by simpa using hb) hbase
        exact ⟨v', w', q1, by simpa using q2, q3, q4⟩
  obtain ⟨v', w', hrun, q2, q3, q4⟩ := hrun
  have hfin : Own w' lo base E v' (xs ++ ys) := Own.appended (P := P) (t := t) hown0 hbase hcl hcs hcr hb css h3 h5 h6 q2 q3 q4
  have hbl : Below base w w' := (Below.refl _ _).grown q3 hbase (fun k hk => (h4.lt k hk).1)
  refine wpList_plain hgd fun K hK => ?_
  unfold Oper.wp execOp
  simp only [ho, resolve, invoke, builtin, Sem.run_bind, Sem.run_pure, Result.andThen_ok, List.map_toArray, List.map_cons, List.map_nil, hs, hx, hrun]
  exact hK _ _ (h v' w' hfin q3 hbl)
end

/-- Beside an owned row, another row that is kept while the first grows. -/
theorem Own.beside {α β : Type} [Rep α] [Rep β] {w w' : World} {lo lo' base base' : Nat} {E E' : TypeId} {v v' : Value} {xs : List α} (h : Own w lo base E v xs) {row : Option Nat} (hg : w.grownBy w' row)
    (hne : ∀ b, row = some b → b < lo ∨ w.heap.size ≤ b) : Own w' lo base E v xs :=
  h.kept hg.size fun b hb hb' => hg.block b hb' fun e => by rcases hne b e.symm with h | h <;> omega
end Go.Proofs.Ytonkbljpcgadlaa
