/- Arguments as the form reads them, opened to this proof's readings: one law a type. -/
import Derived.Test.YtogdmcebojiojaaGreatDoorMA
import Derived.ProofKit
import Derived.OpenShut
import Derived.SizedLaws
import Derived.Deep.Slices
import Derived.Deep.Fields
namespace Go.Proofs.YtogdmcebojiojaaGreatDoor
open Go.RowKit Go.ChangeShapes Go.WideShapes Go.Deep
set_option linter.unusedVariables false

/-- Type t reads as α: whatever the form reads of t, within its own reach, this proof's reading has. -/
def OpenAt (α : Type) [Rep α] (P : Program) (t : TypeId) : Prop :=
  P.cellsOf t = Rep.size α ∧ ∀ (H : Type) (enc : TypeId × Value → H) (w : World) (fuel : Nat) (cs : List Value) (x : DataW H × List MemPlace),
    DataW.trod enc P w 0 (fun _ => true) true fuel t cs = some x → (∀ n ∈ x.1.weights P t, n ≤ reachBytes) → ∃ y : α, Rep.rd w (fun b => b < w.heap.size) cs y

theorem openAt_int {P : Program} {t : TypeId} (ht : P.underlying t = some (.int .i64)) (hc : P.cellsOf t = 1) : OpenAt Int P t :=
  ⟨hc, fun H enc w fuel cs x h _ => by
    obtain ⟨n, rfl, _, hw⟩ := DataW.trod_int ht h
    refine ⟨n, rfl, ?_⟩
    simpa [inI64, Lit.wf, IntKind.min, IntKind.max, IntKind.signed, IntKind.bits] using hw⟩
theorem openAt_str {P : Program} {t : TypeId} (ht : P.underlying t = some .string) (hc : P.cellsOf t = 1) : OpenAt ByteArray P t :=
  ⟨hc, fun H enc w fuel cs x h hw => by
    obtain ⟨s, rfl, rfl, _⟩ := DataW.trod_string ht h
    have := hw s.data.toList.length (by simp [DataW.weights])
    have hr : reachBytes ≤ 140737488355328 := by decide
    exact ⟨s, rfl, by simp at this; omega⟩⟩

theorem weights_all {H : Type} {P : Program} {e : TypeId} : ∀ {l : List (DataW H)} {d : DataW H}, d ∈ l → ∀ n ∈ d.weights P e, n ∈ DataW.weightsAll P e l
  | x :: l, d, hd, n, hn => by
    simp only [DataW.weightsAll, List.mem_append]
    rcases List.mem_cons.1 hd with rfl | h
    · exact .inl hn
    · exact .inr (weights_all h n hn)

theorem add_none (b o n : Nat) : (⟨b, o, none⟩ : Addr).add n = ⟨b, o + n, none⟩ := by unfold Addr.add; split <;> simp_all

theorem openAt_list {α : Type} [Rep α] {P : Program} {t e : TypeId} (ht : P.underlying t = some (.slice e)) (hc : P.cellsOf t = 1) (hb : P.bytesOf e = Rep.bytes α) (he : OpenAt α P e) : OpenAt (List α) P t :=
  ⟨hc, fun H enc w fuel cs x h hw => by
    rcases open_slice ht h with ⟨rfl, rfl⟩ | ⟨a, len, cap, m, n, D, Pl, rfl, _, hl, hm, hmm, rfl, hi⟩
    · exact ⟨[], none, 0, rfl, by simp, by simp, by simp, fun _ => rfl, fun h => absurd h (by simp)⟩
    · have hml : len ≤ m := by rw [hmm]; split <;> omega
      have hall : ∀ i, i < len → ∀ n ∈ (D i).weights P e, n ≤ reachBytes := fun i hi' n hn => hw n (by
        simp only [DataW.weights, ht, List.mem_cons, List.mem_append]
        exact .inr (.inl (weights_all (List.mem_map.2 ⟨i, List.mem_range.2 hi', rfl⟩) n hn)))
      have hex : ∀ i : Fin len, ∃ y : α, ∃ cs', w.cells? 0 (a.add (i * Rep.size α)) (Rep.size α) = some cs' ∧ Rep.rd w (fun b => b < w.heap.size) cs' y := fun i => by
        obtain ⟨cs', h1, h2⟩ := hi i (by omega)
        rw [he.1] at h1
        obtain ⟨y, hy⟩ := he.2 H enc w n cs' _ h2 (hall i i.2)
        exact ⟨y, cs', h1, hy⟩
      let f : Fin len → α := fun i => (hex i).choose
      have hf : ∀ i : Fin len, ∃ cs', w.cells? 0 (a.add (i * Rep.size α)) (Rep.size α) = some cs' ∧ Rep.rd w (fun b => b < w.heap.size) cs' (f i) := fun i => (hex i).choose_spec
      have hbytes := hw ((len + (m - len)) * P.bytesOf e) (by simp [DataW.weights, ht])
      have hr : reachBytes ≤ 140737488355328 := by decide
      have hlb : len * Rep.bytes α ≤ (len + (m - len)) * P.bytesOf e := by rw [hb]; exact Nat.mul_le_mul_right _ (by omega)
      refine ⟨List.ofFn f, some a, cap, by simp, by simp; omega, by simpa using hl, by simpa [maxLen] using hm, (fun e => by cases e), fun hn => ?_⟩
      simp at hn
      obtain ⟨b, o, sp⟩ := a
      have hsp : sp = none := by
        obtain ⟨cs', h1, _⟩ := hf ⟨0, hn⟩
        obtain ⟨_, hl1, hat⟩ := World.cells?_some h1
        have hp : 0 < Rep.size α := Rep.pos
        have h0 := hat 0 hp
        rw [List.getElem?_eq_getElem (by omega)] at h0
        simpa [Addr.add] using World.cell?_spot h0
      subst hsp
      have hblt : b < w.heap.size := by
        obtain ⟨cs', h1, _⟩ := hf ⟨0, hn⟩
        obtain ⟨_, hl1, hat⟩ := World.cells?_some h1
        have hp : 0 < Rep.size α := Rep.pos
        have h0 := hat 0 hp
        rw [List.getElem?_eq_getElem (by omega)] at h0
        have := World.block_lt_of_cell? _ _ h0
        simpa [Addr.add] using this
      refine ⟨b, o, rfl, hblt, fun i y hy => ?_⟩
      have hil : i < len := by have := (List.getElem?_eq_some_iff.1 hy).1; simpa using this
      have hy' : y = f ⟨i, hil⟩ := by simpa [List.getElem?_ofFn, hil] using hy.symm
      subst hy'
      obtain ⟨cs', h1, h2⟩ := hf ⟨i, hil⟩
      obtain ⟨_, hl1, hat⟩ := World.cells?_some h1
      refine ⟨cs', h2, fun j u hu => ?_⟩
      have hj : j < Rep.size α := by have := (List.getElem?_eq_some_iff.1 hu).1; omega
      have := hat j hj
      rw [add_none, add_none, hu] at this
      exact this⟩

/-- A struct of one-cell fields: each field's own reading. -/
theorem open_fields {P : Program} {t : TypeId} {fs : Array Field} {H : Type} {enc : TypeId × Value → H} {w : World} {fuel : Nat} {cs : List Value} {x : DataW H × List MemPlace} (ht : P.underlying t = some (.struct fs)) (hone : oneCellFields P fs = true) (hc : P.cellsOf t = fs.size)
    (h : DataW.trod enc P w 0 (fun _ => true) true fuel t cs = some x) (hw : ∀ n ∈ x.1.weights P t, n ≤ reachBytes) :
    cs.length = fs.size ∧ ∃ n, ∀ (i : Nat) (f : Field), fs[i]? = some f → ∃ v y, cs[i]? = some v ∧ DataW.trod enc P w 0 (fun _ => true) true n f.type [v] = some y ∧ ∀ m ∈ y.1.weights P f.type, m ≤ reachBytes := by
  obtain ⟨xs, n, _, rfl, hlen, hxl, hf⟩ := DataW.trod_struct ht h
  refine ⟨by omega, n, fun i f hi => ?_⟩
  have hif : i < fs.size := (Array.getElem?_eq_some_iff.1 hi).1
  obtain ⟨ho, hk⟩ := hone_of hone i f hi
  have h1 := hf i f hi
  rw [ho, hk] at h1
  have hil : i < cs.length := by omega
  have e : (cs.drop i).take 1 = [cs[i]] := by rw [List.drop_eq_getElem_cons hil]; rfl
  rw [e] at h1
  have hxi : xs[i]? = some (xs[i]'(by omega)) := List.getElem?_eq_getElem (by omega)
  refine ⟨cs[i], xs[i]'(by omega), List.getElem?_eq_getElem hil, h1.trans hxi, fun m hm => hw m ?_⟩
  simp only [DataW.weights, ht]
  refine DataW.weights_mem_each (j := i) (t := f.type) (d := (xs[i]'(by omega)).1) ?_ ?_ m hm
  · rw [List.getElem?_map]; simp [hi]
  · rw [List.getElem?_map, hxi]; rfl

/-- An argument, as a value. -/
theorem rds_of_trod {α : Type} [Rep α] {P : Program} {t : TypeId} {H : Type} {enc : TypeId × Value → H} {w : World} {v : Value} {d : DataW H} {p : List MemPlace} (ho : OpenAt α P t) (h : DataW.Trod enc P w 0 (fun _ => true) true t v d p)
    (hs : vOf v.cells.toList = v) (hw : ∀ n ∈ d.weights P t, n ≤ reachBytes) : ∃ y : α, Rds w v y := by
  obtain ⟨fuel, hf⟩ := h
  obtain ⟨y, hy⟩ := ho.2 H enc w fuel _ _ hf hw
  exact ⟨y, v.cells.toList, hs.symm, hy⟩
theorem vOf_agg {cs : Array Value} (h : cs.size ≠ 1) : vOf (Value.agg cs).cells.toList = .agg cs := by
  obtain ⟨l⟩ := cs
  match l, h with
  | [], _ => rfl
  | [a], h => exact absurd rfl h
  | a :: b :: l, _ => rfl
theorem sized_at {H : Type} {P : Program} {ts : List TypeId} {ds : List (DataW H)} (h : (DataW.weightsEach P ts ds).all (· ≤ reachBytes) = true) {j : Nat} {t : TypeId} {d : DataW H} (ht : ts[j]? = some t) (hd : ds[j]? = some d) : ∀ n ∈ d.weights P t, n ≤ reachBytes := fun n hn => by
  have := List.all_eq_true.1 h n (DataW.weights_mem_each ht hd n hn)
  simpa using this

theorem openAt_lit {P : Program} {t : TypeId} {f0 f1 f2 : Field} (ht : P.underlying t = some (.struct #[f0, f1, f2])) (hone : oneCellFields P #[f0, f1, f2] = true) (hc : P.cellsOf t = 3) (h0 : OpenAt Int P f0.type) (h1 : OpenAt Int P f1.type) (h2 : OpenAt Int P f2.type) : OpenAt LitD P t :=
  ⟨hc, fun H enc w fuel cs x h hw => by
    obtain ⟨hl, n, hf⟩ := open_fields ht hone hc h hw
    obtain ⟨v0, y0, c0, t0, w0⟩ := hf 0 f0 rfl
    obtain ⟨v1, y1, c1, t1, w1⟩ := hf 1 f1 rfl
    obtain ⟨v2, y2, c2, t2, w2⟩ := hf 2 f2 rfl
    obtain ⟨x0, e0, q0⟩ := h0.2 H enc w n _ _ t0 w0
    obtain ⟨x1, e1, q1⟩ := h1.2 H enc w n _ _ t1 w1
    obtain ⟨x2, e2, q2⟩ := h2.2 H enc w n _ _ t2 w2
    match cs, hl, c0, c1, c2 with
    | [a, b, c], _, c0, c1, c2 =>
      simp at c0 c1 c2 e0 e1 e2
      subst c0 c1 c2 e0 e1 e2
      exact ⟨⟨x0, x1, x2⟩, rfl, q0, q1, q2⟩⟩
theorem openAt_var {P : Program} {t : TypeId} {f0 f1 f2 : Field} (ht : P.underlying t = some (.struct #[f0, f1, f2])) (hone : oneCellFields P #[f0, f1, f2] = true) (hc : P.cellsOf t = 3) (h0 : OpenAt ByteArray P f0.type) (h1 : OpenAt Int P f1.type) (h2 : OpenAt Int P f2.type) : OpenAt VarD P t :=
  ⟨hc, fun H enc w fuel cs x h hw => by
    obtain ⟨hl, n, hf⟩ := open_fields ht hone hc h hw
    obtain ⟨v0, y0, c0, t0, w0⟩ := hf 0 f0 rfl
    obtain ⟨v1, y1, c1, t1, w1⟩ := hf 1 f1 rfl
    obtain ⟨v2, y2, c2, t2, w2⟩ := hf 2 f2 rfl
    obtain ⟨x0, e0, q0⟩ := h0.2 H enc w n _ _ t0 w0
    obtain ⟨x1, e1, q1⟩ := h1.2 H enc w n _ _ t1 w1
    obtain ⟨x2, e2, q2⟩ := h2.2 H enc w n _ _ t2 w2
    match cs, hl, c0, c1, c2 with
    | [a, b, c], _, c0, c1, c2 =>
      simp at c0 c1 c2 e0 e1 e2
      subst c0 c1 c2 e0 e1 e2
      exact ⟨⟨x0, x1, x2⟩, rfl, q0, q1, q2⟩⟩
theorem openAt_con {P : Program} {t : TypeId} {f0 f1 f2 f3 f4 f5 : Field} (ht : P.underlying t = some (.struct #[f0, f1, f2, f3, f4, f5])) (hone : oneCellFields P #[f0, f1, f2, f3, f4, f5] = true) (hc : P.cellsOf t = 6)
    (h0 : OpenAt Int P f0.type) (h1 : OpenAt (List Int) P f1.type) (h2 : OpenAt (List Int) P f2.type) (h3 : OpenAt Int P f3.type) (h4 : OpenAt (List (List Int)) P f4.type) (h5 : OpenAt (List LitD) P f5.type) : OpenAt ConD P t :=
  ⟨hc, fun H enc w fuel cs x h hw => by
    obtain ⟨hl, n, hf⟩ := open_fields ht hone hc h hw
    obtain ⟨v0, y0, c0, t0, w0⟩ := hf 0 f0 rfl
    obtain ⟨v1, y1, c1, t1, w1⟩ := hf 1 f1 rfl
    obtain ⟨v2, y2, c2, t2, w2⟩ := hf 2 f2 rfl
    obtain ⟨v3, y3, c3, t3, w3⟩ := hf 3 f3 rfl
    obtain ⟨v4, y4, c4, t4, w4⟩ := hf 4 f4 rfl
    obtain ⟨v5, y5, c5, t5, w5⟩ := hf 5 f5 rfl
    obtain ⟨x0, e0, q0⟩ := h0.2 H enc w n _ _ t0 w0
    obtain ⟨x1, q1⟩ := h1.2 H enc w n _ _ t1 w1
    obtain ⟨x2, q2⟩ := h2.2 H enc w n _ _ t2 w2
    obtain ⟨x3, e3, q3⟩ := h3.2 H enc w n _ _ t3 w3
    obtain ⟨x4, q4⟩ := h4.2 H enc w n _ _ t4 w4
    obtain ⟨x5, q5⟩ := h5.2 H enc w n _ _ t5 w5
    match cs, hl, c0, c1, c2, c3, c4, c5 with
    | [a, b, c, d, e, f], _, c0, c1, c2, c3, c4, c5 =>
      simp at c0 c1 c2 c3 c4 c5 e0 e3
      subst c0 c1 c2 c3 c4 c5 e0 e3
      exact ⟨⟨x0, x1, x2, x3, x4, x5⟩, _, _, _, _, rfl, q0, q3, q1, q2, q4, q5⟩⟩
theorem openAt_mdl {P : Program} {t : TypeId} {f0 f1 f2 f3 : Field} (ht : P.underlying t = some (.struct #[f0, f1, f2, f3])) (hone : oneCellFields P #[f0, f1, f2, f3] = true) (hc : P.cellsOf t = 4)
    (h0 : OpenAt (List VarD) P f0.type) (h1 : OpenAt (List ConD) P f1.type) (h2 : OpenAt Int P f2.type) (h3 : OpenAt Int P f3.type) : OpenAt MdlD P t :=
  ⟨hc, fun H enc w fuel cs x h hw => by
    obtain ⟨hl, n, hf⟩ := open_fields ht hone hc h hw
    obtain ⟨v0, y0, c0, t0, w0⟩ := hf 0 f0 rfl
    obtain ⟨v1, y1, c1, t1, w1⟩ := hf 1 f1 rfl
    obtain ⟨v2, y2, c2, t2, w2⟩ := hf 2 f2 rfl
    obtain ⟨v3, y3, c3, t3, w3⟩ := hf 3 f3 rfl
    obtain ⟨x0, q0⟩ := h0.2 H enc w n _ _ t0 w0
    obtain ⟨x1, q1⟩ := h1.2 H enc w n _ _ t1 w1
    obtain ⟨x2, e2, q2⟩ := h2.2 H enc w n _ _ t2 w2
    obtain ⟨x3, e3, q3⟩ := h3.2 H enc w n _ _ t3 w3
    match cs, hl, c0, c1, c2, c3 with
    | [a, b, c, d], _, c0, c1, c2, c3 =>
      simp at c0 c1 c2 c3 e2 e3
      subst c0 c1 c2 c3 e2 e3
      exact ⟨⟨x0, x1, x2, x3⟩, _, _, rfl, q2, q3, q0, q1⟩⟩
end Go.Proofs.YtogdmcebojiojaaGreatDoor
