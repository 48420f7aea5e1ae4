/- What is printed is read back: plain laws. -/
import Derived.Test.YtogdmcebojiojaaGreatDoorQBack3
import Derived.Test.YtogdmcebojiojaaGreatDoorMP
namespace Go.Proofs.YtogdmcebojiojaaGreatDoor
open Go.RowKit
set_option linter.unusedVariables false
set_option linter.unusedSimpArgs false

def At (l : List Tok) : Nat → List Pc → Prop
  | _, [] => True
  | j, p :: ps => j < l.length ∧ (tokA l j).kind = (p.k : Int) ∧ (tokA l j).text = bs p.w ∧ At l (j + 1) ps
theorem at_app {l : List Tok} : ∀ {a b : List Pc} {j : Nat}, At l j (a ++ b) ↔ At l j a ∧ At l (j + a.length) b
  | [], b, j => by simp [At]
  | p :: a, b, j => by
    show (_ ∧ _ ∧ _ ∧ At l (j + 1) (a ++ b)) ↔ (_ ∧ _ ∧ _ ∧ At l (j + 1) a) ∧ _
    rw [at_app, List.length_cons, show j + (a.length + 1) = j + 1 + a.length by omega]
    constructor
    · rintro ⟨h1, h2, h3, h4, h5⟩; exact ⟨⟨h1, h2, h3, h4⟩, h5⟩
    · rintro ⟨⟨h1, h2, h3, h4⟩, h5⟩; exact ⟨h1, h2, h3, h4, h5⟩
theorem at_len {l : List Tok} : ∀ {ps : List Pc} {j : Nat}, j ≤ l.length → At l j ps → j + ps.length ≤ l.length
  | [], j, h, _ => by simpa using h
  | p :: ps, j, _, ⟨h1, _, _, h4⟩ => by have := at_len h1 h4; rw [List.length_cons]; omega
theorem at_toks : ∀ (ps : List Pc) (pre : List Tok) (i : Nat), At (pre ++ toksP i ps) pre.length ps
  | [], pre, i => trivial
  | p :: ps, pre, i => by
    have hg : tokA (pre ++ toksP i (p :: ps)) pre.length = ⟨p.k, i, bs p.w⟩ := by
      unfold tokA
      rw [List.getD_eq_getElem?_getD, List.getElem?_append_right (Nat.le_refl _), Nat.sub_self]; rfl
    refine ⟨by rw [List.length_append, toksP, List.length_cons]; omega, by rw [hg], by rw [hg], ?_⟩
    have := at_toks ps (pre ++ [⟨p.k, i, bs p.w⟩]) (i + p.w.length + p.sep.length)
    rw [List.append_assoc, List.length_append] at this
    exact this
theorem toks_len : ∀ (ps : List Pc) (i : Nat), (toksP i ps).length = ps.length
  | [], _ => rfl
  | p :: ps, i => by rw [toksP, List.length_cons, List.length_cons, toks_len]
theorem bs_eq (s : ByteArray) : bs s.data.toList = s := by unfold bs; cases s; rfl
section
variable {l : List Tok}
theorem take_atB {s : ByteArray} {j : Nat} {p : Pc} {ps : List Pc} (h : At l j (p :: ps)) : takeB l s j = decide (bs p.w = s) := by
  obtain ⟨h1, _, h3, _⟩ := h
  unfold takeB
  rw [decide_eq_true h1, h3, Bool.true_and]
theorem need_at {w : List UInt8} {sep : List UInt8} {k : Nat} {s : ByteArray} {j : Nat} {ps : List Pc} (h : At l j (⟨k, w, sep⟩ :: ps)) (hs : bs w = s) : needP l [s] j = .ok () (j + 1) := by
  unfold needP
  rw [if_pos (by rw [take_atB h]; exact decide_eq_true hs)]; rfl
theorem k_at {n : Int} (hn : -1000 ≤ n ∧ n ≤ 1000) {sep : List UInt8} {j : Nat} (h : At l j (intP n sep)) : kP numV l j = .ok n (j + (intP n sep).length) := by
  unfold kP
  have hv : ∀ m : Nat, m < 1001 → numV (bs (digs m)) = (m : Int) := fun m hm => by
    unfold numV bs
    rw [show (⟨(digs m).toArray⟩ : ByteArray).data.toList = digs m from rfl, (digs_ok hm).2.2.1]; rfl
  unfold intP at h ⊢
  by_cases h0 : n < 0
  · rw [if_pos h0] at h ⊢
    rw [if_pos (by rw [take_atB h]; rfl)]
    obtain ⟨_, _, _, h1, h2, h3, _⟩ := h
    have ho := digs_ok (n := (-n).toNat) (by omega)
    have hz : ¬((-1 : Int) < 0 ∧ (tokA l (j + 1)).text = ⟨#[48]⟩) := by
      rintro ⟨_, hh⟩
      rw [h3] at hh
      have : digs (-n).toNat = [48] := congrArg (fun x : ByteArray => x.data.toList) hh
      rcases ho.2.2.2 with h | h
      · omega
      · exact h this
    unfold digP
    rw [if_pos ⟨h1, h2, hz⟩, h3, hv _ (by omega)]
    show Pr.ok (-1 * ((-n).toNat : Int)) (j + 1 + 1) = Pr.ok n (j + 2)
    rw [show -1 * ((-n).toNat : Int) = n by omega]
  · rw [if_neg h0] at h ⊢
    obtain ⟨⟨c, v, e, hc, _⟩, _⟩ := digs_ok (n := n.toNat) (by omega)
    rw [if_neg (by
      rw [take_atB h]
      intro hh
      have hh := of_decide_eq_true hh
      have : digs n.toNat = [45] := congrArg (fun x : ByteArray => x.data.toList) hh
      rw [e] at this
      injection this with this
      rw [this] at hc
      exact absurd hc (by decide))]
    obtain ⟨h1, h2, h3, _⟩ := h
    unfold digP
    rw [if_pos ⟨h1, h2, fun hh => absurd hh.1 (by decide)⟩, h3, hv _ (by omega)]
    show Pr.ok (1 * (n.toNat : Int)) (j + 1) = Pr.ok n (j + 1)
    rw [show 1 * (n.toNat : Int) = n by omega]
theorem int_first (n : Int) (sep : List UInt8) : ∃ p r, intP n sep = p :: r ∧ p.k ≠ 1 ∧ (-1000 ≤ n ∧ n ≤ 1000 → p.w ≠ [93]) := by
  unfold intP
  split
  · exact ⟨_, _, rfl, by simp, fun _ => by simp⟩
  · refine ⟨_, _, rfl, by simp, fun hn e => ?_⟩
    obtain ⟨⟨c, v, e2, hc, _⟩, _⟩ := digs_ok (n := n.toNat) (by omega)
    have e : digs n.toNat = [93] := e
    rw [e2] at e
    injection e with e
    rw [e] at hc; exact absurd hc (by decide)
/-! ### Lists -/
theorem list_tail {α : Type} {f : Nat → Pr α} {pc : α → List Pc} {sep : List UInt8} : ∀ (xs : List α) (n : Nat) (acc : List α) (j : Nat), xs.length < n → (∀ x ∈ xs, ∀ j, At l j (pc x) → f j = .ok x (j + (pc x).length)) → At l j (tailP (xs.map pc) sep) → listR l f n acc j = .ok (acc ++ xs) (j + (tailP (xs.map pc) sep).length)
  | [], n + 1, acc, j, _, _, h => by
    have h : At l j [⟨3, [93], sep⟩] := h
    unfold listR
    rw [if_neg (by rw [take_atB h]; simp [bs]), need_at (s := ⟨#[93]⟩) h rfl]
    show Pr.ok acc (j + 1) = Pr.ok (acc ++ []) (j + 1)
    rw [List.append_nil]
  | x :: xs, n + 1, acc, j, hn, hf, h => by
    have e : tailP ((x :: xs).map pc) sep = ⟨3, [44], [32]⟩ :: (pc x ++ tailP (xs.map pc) sep) := by unfold tailP; rw [List.map_cons, List.flatMap_cons, List.append_assoc]; rfl
    rw [e] at h ⊢
    unfold listR
    rw [if_pos (by rw [take_atB h]; rfl)]
    obtain ⟨_, _, _, h⟩ := h
    rw [at_app] at h
    rw [hf x List.mem_cons_self _ h.1]
    show listR l f n (acc ++ [x]) _ = _
    rw [list_tail xs n (acc ++ [x]) _ (by rw [List.length_cons] at hn; omega) (fun y hy => hf y (List.mem_cons_of_mem _ hy)) h.2, List.append_assoc]
    congr 1
    rw [List.length_cons, List.length_append]; omega
theorem tail_len (xs : List (List Pc)) (sep : List UInt8) : xs.length < (tailP xs sep).length := by
  unfold tailP
  rw [List.length_append]
  have : xs.length ≤ (xs.flatMap fun x => (⟨3, [44], [32]⟩ : Pc) :: x).length := by
    induction xs with
    | nil => exact Nat.le_refl _
    | cons x xs ih => rw [List.flatMap_cons, List.length_append, List.length_cons, List.length_cons]; omega
  rw [List.length_singleton]; omega
theorem list_at {α : Type} {f : Nat → Pr α} {pc : α → List Pc} {sep : List UInt8} {xs : List α} {j : Nat} (hf : ∀ x ∈ xs, ∀ j, At l j (pc x) → f j = .ok x (j + (pc x).length)) (h1 : ∀ x ∈ xs, ∃ p r, pc x = p :: r ∧ p.w ≠ [93]) (h : At l j (brP' (xs.map pc) sep)) : listP l f j = .ok xs (j + (brP' (xs.map pc) sep).length) := by
  unfold listP
  cases xs with
  | nil =>
    have h : At l j [⟨3, [91], []⟩, ⟨3, [93], sep⟩] := h
    rw [need_at (s := ⟨#[91]⟩) h rfl]
    show (if takeB l ⟨#[93]⟩ (j + 1) = true then Pr.ok ([] : List α) (j + 1 + 1) else _) = _
    rw [if_pos (by rw [take_atB h.2.2.2]; rfl)]; rfl
  | cons x r =>
    have h : At l j (⟨3, [91], []⟩ :: (pc x ++ tailP (r.map pc) sep)) := h
    rw [need_at (s := ⟨#[91]⟩) h rfl]
    obtain ⟨hj, _, _, h⟩ := h
    show (if takeB l ⟨#[93]⟩ (j + 1) = true then Pr.ok ([] : List α) (j + 1 + 1) else _) = _
    obtain ⟨p, q, e, hp⟩ := h1 x List.mem_cons_self
    have hl := at_len (by omega : j + 1 ≤ l.length) h
    rw [if_neg (by
      rw [e] at h
      rw [take_atB (p := p) (ps := q ++ tailP (r.map pc) sep) h]
      intro hh
      exact hp (congrArg (fun x : ByteArray => x.data.toList) (of_decide_eq_true hh)))]
    rw [at_app] at h
    rw [hf x List.mem_cons_self _ h.1]
    show listR l f (l.length + 1) [x] _ = _
    have ht := tail_len (r.map pc) sep
    rw [List.length_map] at ht
    rw [List.length_append] at hl
    rw [list_tail r _ [x] _ (by omega) (fun y hy => hf y (List.mem_cons_of_mem _ hy)) h.2]
    show Pr.ok (x :: r) _ = Pr.ok (x :: r) (j + (_ :: (pc x ++ tailP (r.map pc) sep)).length)
    congr 1
    rw [List.length_cons, List.length_append]; omega
theorem nums_at {xs : List Int} (hx : ∀ n ∈ xs, -1000 ≤ n ∧ n ≤ 1000) {sep : List UInt8} {j : Nat} (h : At l j (numsP xs sep)) : listP l (kP numV l) j = .ok xs (j + (numsP xs sep).length) :=
  list_at (pc := fun n => intP n []) (fun x hm j h => k_at (hx x hm) h) (fun x hm => by obtain ⟨p, r, e, _, h⟩ := int_first x []; exact ⟨p, r, e, h (hx x hm)⟩) h
section
variable {vs : List VarD} {ns : List (ByteArray × Int)} (hn : ∀ v ∈ vs, isNameS v.name = true) (hN : ∀ i : Int, 0 ≤ i ∧ i < vs.length → mget .str .int (nmS vs i) ns = some i)
include hn hN
theorem v_at {i : Int} (hi : 0 ≤ i ∧ i < vs.length) {sep : List UInt8} {j : Nat} {ps : List Pc} (h : At l j (nmP (nmS vs i) sep :: ps)) : vP isNameS ns l j = .ok i (j + 1) := by
  obtain ⟨h1, _, h3, _⟩ := h
  have h3 : (tokA l j).text = nmS vs i := by rw [h3]; exact bs_eq _
  unfold vP nameP
  rw [h3, if_pos ⟨h1, nms_name hn hi⟩]
  show (match mget .str .int (nmS vs i) ns with
    | some n => Pr.ok n (j + 1)
    | none => Pr.err j 5) = _
  rw [hN i hi]
theorem names_at {xs : List Int} (hx : ∀ i ∈ xs, 0 ≤ i ∧ i < vs.length) {sep : List UInt8} {j : Nat} (h : At l j (namesP vs xs sep)) : listP l (vP isNameS ns l) j = .ok xs (j + (namesP vs xs sep).length) :=
  list_at (pc := fun i => [nmP (nmS vs i) []]) (fun x hm j h => v_at hn hN (hx x hm) h) (fun x hm => ⟨_, _, rfl, fun e => by
    obtain ⟨_, _, htok, _⟩ := pok_name (nms_name hn (hx x hm)) bl_nil
    have e : (nmS vs x).data.toList = [93] := e
    have h2 := nms_name hn (hx x hm)
    unfold isNameS at h2
    rw [e] at h2
    exact absurd h2 (by simp [isTok, tokenAt, isL, isLN, isD, isDN, isTwo, isSign])⟩) h
omit hn hN in
theorem word_at {W : List ByteArray} {s : ByteArray} {k : Nat} {w sep : List UInt8} {j : Nat} {ps : List Pc} (h : At l j (⟨k, w, sep⟩ :: ps)) : ∀ (W : List ByteArray) (i : Int), wordP l W i j = (W.findIdx? fun x => decide (bs w = x)).map fun n => i + (n : Int)
  | [], i => rfl
  | x :: W, i => by
    unfold wordP
    rw [take_atB h, List.findIdx?_cons]
    by_cases hx : bs w = x
    · rw [if_pos (decide_eq_true hx), if_pos (decide_eq_true hx)]; simp
    · rw [if_neg (by simpa using hx), if_neg (by simpa using hx), word_at (s := s) (W := W) h W (i + 1)]
      cases W.findIdx? fun x => decide (bs w = x) with
      | none => rfl
      | some n =>
        show some (i + 1 + (n : Int)) = some (i + ((n + 1 : Nat) : Int))
        congr 1; omega
omit hn hN in
theorem op_at' {o : Int} (ho : 1 ≤ o ∧ o ≤ 4) {sep : List UInt8} {j : Nat} {ps : List Pc} (h : At l j (⟨3, (opS o).data.toList, sep⟩ :: ps)) : wordP l opW 1 j = some o := by
  rw [word_at (s := ⟨#[]⟩) (W := []) h, bs_eq]
  have ho : o = 1 ∨ o = 2 ∨ o = 3 ∨ o = 4 := by omega
  rcases ho with rfl | rfl | rfl | rfl <;> decide +kernel
omit hn hN in
theorem conw_at {o : Int} (ho : 1 ≤ o ∧ o ≤ 10) {sep : List UInt8} {j : Nat} {ps : List Pc} (h : At l j (nmP (wdS o) sep :: ps)) : wordP l conW 1 j = some o := by
  rw [word_at (s := ⟨#[]⟩) (W := []) (show At l j (⟨1, (wdS o).data.toList, sep⟩ :: ps) from h), bs_eq]
  have ho : o = 1 ∨ o = 2 ∨ o = 3 ∨ o = 4 ∨ o = 5 ∨ o = 6 ∨ o = 7 ∨ o = 8 ∨ o = 9 ∨ o = 10 := by omega
  rcases ho with rfl | rfl | rfl | rfl | rfl | rfl | rfl | rfl | rfl | rfl <;> decide +kernel
theorem lit_at {x : LitD} (hx : litE vs.length x = 0) {sep : List UInt8} {j : Nat} (h : At l j (litPc vs x sep)) : litP isNameS numV ns l j = .ok x (j + (litPc vs x sep).length) := by
  obtain ⟨h1, h2, h3⟩ := litE_n hx
  unfold litP
  rw [v_at hn hN h1 h]
  have h := h.2.2.2
  show (match wordP l opW 1 (j + 1) with
    | some o => (kP numV l (j + 1 + 1)).bind fun n j => Pr.ok (⟨x.var, o, n⟩ : LitD) j
    | none => Pr.err (j + 1) 1) = _
  rw [op_at' h2 h]
  show ((kP numV l (j + 1 + 1)).bind fun n j => Pr.ok (⟨x.var, x.op, n⟩ : LitD) j) = _
  rw [k_at h3 h.2.2.2]
  show Pr.ok (⟨x.var, x.op, x.n⟩ : LitD) _ = _
  congr 1
  unfold litPc
  rw [List.length_cons, List.length_cons]; omega
end
end
end Go.Proofs.YtogdmcebojiojaaGreatDoor
