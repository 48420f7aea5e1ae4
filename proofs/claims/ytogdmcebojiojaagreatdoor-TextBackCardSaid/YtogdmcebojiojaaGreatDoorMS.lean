/- Texts of this proof, one behind the other: nothing is handed in but what is proved here; no condition. -/
import Derived.Test.YtogdmcebojiojaaGreatDoorMO
import Derived.Test.YtogdmcebojiojaaGreatDoorMP
import Derived.Test.YtogdmcebojiojaaGreatDoorMC
import Derived.Test.YtogdmcebojiojaaGreatDoorMQ
import Derived.Test.YtogdmcebojiojaaGreatDoorWCordonref
/- What the parser answers: its model, or where it gave up. -/
namespace Go.Proofs.YtogdmcebojiojaaGreatDoor
open Go.RowKit
set_option linter.unusedVariables false
set_option linter.unusedSimpArgs false

def parseP (l : List Tok) (en : Int) : MdlD × Int × Int := match modelP isNameS numV l with
  | .ok (m, _) _ => (m, 0, 0)
  | .err j e => (mEmpty, hereP l en j, e)
theorem HOk.later {w w' : World} {S : Nat → Prop} {pl : Nat → Value} {h : List (Nat × HObj)} (hh : HOk w S pl h) (hS : ∀ b, S b → b < w.heap.size) (hb : Below w.heap.size w w') : HOk w' S pl h where
  ok := fun k o hk => (hh.ok k o hk).mono (fun b hs => hb.block b (hS b hs)) (fun b hb' => hb.block b (hh.priv k o b hk hb').1) (fun _ h => h) fun _ _ _ _ => rfl
  priv := fun k o b hk hb' => ⟨Nat.lt_of_lt_of_le (hh.priv k o b hk hb').1 hb.size, (hh.priv k o b hk hb').2⟩
  inj := hh.inj
theorem ptr_args {P : Program} {w : World} {S : Nat → Prop} {pl : Nat → Value} {vs : Array Value} (hsz : vs.size = 1) (hv : Rd w S pl (vs.getD 0 undef) (.ptr 1000 0)) : ∃ b, pl 1000 = ptr0 b ∧ vs = #[ptr0 b] := by
  obtain ⟨b, e1, e2⟩ := hv
  refine ⟨b, e1, ?_⟩
  apply Array.ext
  · simpa using hsz
  · intro i h1 h2
    have : i = 0 := by omega
    subst this
    rw [Array.getD_eq_getD_getElem?, Array.getElem?_eq_getElem h1] at e2
    simpa using e2
/-- The call of model, wherever three blocks more lie. -/
theorem model_call {l : List Tok} {en : Int} (hd : NumOk l) {w w3 : World} {S : Nat → Prop} {pl : Nat → Value} {b : Nat} (hS : ∀ b, S b → b < w.heap.size) (e1 : pl 1000 = ptr0 b) (hh : HOk w S pl (hpP l en 0 0 [] [] [] 0)) (hg : GOk Tryz.prog w (HBlk pl (hpP l en 0 0 [] [] [] 0))) (hb : Below w.heap.size w w3) :
    Calls Tryz.prog 94 #[ptr0 b] w3 fun x w' => BelowX w3.heap.size (HBlk pl (hpP l en 0 0 [] [] [] 0)) w3 w' ∧ match modelP isNameS numV l with
      | .ok (m, ns) j => x = .returned (.tuple #[]) ∧ ∃ S' pl', HOk w' S' pl' (hpP l en m.goal m.var m.vars m.cons ns j) ∧ (∀ b, S' b → b < w'.heap.size) ∧ (∀ c, S' c → S c ∨ HBlk pl (hpP l en 0 0 [] [] [] 0) c ∨ w3.heap.size ≤ c) ∧ pl' 1000 = ptr0 b ∧ (∀ c, HBlk pl' (hpP l en m.goal m.var m.vars m.cons ns j) c → HBlk pl (hpP l en 0 0 [] [] [] 0) c ∨ w3.heap.size ≤ c)
      | .err j e => x = .panicked [{ v := flt' (hereP l en j) e, recovered := false }] := by
  have h := text_model_ok (l := l) (en := en) hd
  have hg3 : GOk Tryz.prog w3 (HBlk pl (hpP l en 0 0 [] [] [] 0)) := hg.step (.of hb) fun _ h => .inl h
  have hS3 : ∀ b, S b → b < w3.heap.size := fun b h => Nat.lt_of_lt_of_le (hS b h) hb.size
  have ha : ∀ i d, [D.ptr 1000 0][i]? = some d → Rd w3 S pl ((#[ptr0 b] : Array Value).getD i undef) d := fun i d hi => by
    match i, hi with
    | 0, hi => injection hi with hi; subst hi; exact ⟨b, e1, rfl⟩
  cases hm : modelP isNameS numV l with
  | ok x j =>
    obtain ⟨m, ns⟩ := x
    rw [hm] at h
    refine (h w3 S #[ptr0 b] pl hS3 rfl ha (hh.later hS hb) hg3).mono fun x w' ⟨v, S', pl', q1, q2, q3, q4, q5, q6, q7, q8⟩ => ⟨q8, ?_, S', pl', q3, q4, q5, (q7 1000 rfl).trans e1, q6⟩
    obtain ⟨vs, rfl, hz, _⟩ := (q2.flat (d := .tup []) rfl).tup_inv
    rw [q1]
    have : vs = #[] := Array.eq_empty_of_size_eq_zero hz
    rw [this]
  | err j e =>
    rw [hm] at h
    exact (h w3 S #[ptr0 b] pl hS3 rfl ha (hh.later hS hb) hg3).mono fun x w' ⟨q1, q2⟩ => ⟨q2, q1⟩
theorem cell_at {w : World} {b : Nat} {vs : Array Value} {T : TypeId} (h : w.heap[b]? = some (.cells vs T (0, 0))) {i : Nat} (hi : i < vs.size) : w.cell? ⟨b, i, none⟩ = some (vs.getD i undef) := by
  rw [cell_of_row w b i vs T (0, 0) h]
  simp [Array.getD_eq_getD_getElem?, hi]
theorem parse_results {w : World} {p q r : Nat} {tmps : Array Value} {vs : Array Value} {Tp Tq Tr : TypeId} {a e : Int} (t2 : tmps.getD 2 undef = ptr0 p) (t3 : tmps.getD 3 undef = ptr0 q) (t4 : tmps.getD 4 undef = ptr0 r)
    (hp : w.heap[p]? = some (.cells vs Tp (0, 0))) (hz : vs.size = 4) (hq : w.heap[q]? = some (.cells #[.int .i64 a] Tq (0, 0))) (hr : w.heap[r]? = some (.cells #[.int .i64 e] Tr (0, 0))) :
    (results Tryz.f42 tmps).run Tryz.prog w = .ok (.tuple #[.agg #[vs.getD 0 undef, vs.getD 1 undef, vs.getD 2 undef, vs.getD 3 undef], .int .i64 a, .int .i64 e]) w := by
  have c0 := cell_at hp (i := 0) (by omega)
  have c1 := cell_at hp (i := 1) (by omega)
  have c2 := cell_at hp (i := 2) (by omega)
  have c3 := cell_at hp (i := 3) (by omega)
  have c4 := cell_at hq (i := 0) (Nat.zero_lt_one)
  have c5 := cell_at hr (i := 0) (Nat.zero_lt_one)
  simp only [Array.getD_eq_getD_getElem?] at t2 t3 t4
  simp [results, Tryz.results42, go_sem, t2, t3, t4, c0, c1, c2, c3, c4, c5]
theorem alloc_at (w : World) (o : Obj) : (w.alloc o).heap[w.heap.size]? = some o := by unfold World.alloc; simp
theorem alloc_old {w : World} {o : Obj} {b : Nat} (h : b < w.heap.size) : (w.alloc o).heap[b]? = w.heap[b]? := by
  unfold World.alloc; simp only [Array.getElem?_push]; rw [if_neg (by omega)]
theorem alloc3 (w : World) (o1 o2 o3 : Obj) : (((w.alloc o1).alloc o2).alloc o3).heap[w.heap.size]? = some o1 ∧ (((w.alloc o1).alloc o2).alloc o3).heap[w.heap.size + 1]? = some o2 ∧ (((w.alloc o1).alloc o2).alloc o3).heap[w.heap.size + 1 + 1]? = some o3 := by
  have h1 : (w.alloc o1).heap.size = w.heap.size + 1 := by simp
  have h2 : ((w.alloc o1).alloc o2).heap.size = w.heap.size + 1 + 1 := by simp
  refine ⟨?_, ?_, ?_⟩
  · rw [alloc_old (by omega), alloc_old (by omega)]; exact alloc_at _ _
  · rw [alloc_old (by omega), ← h1]; exact alloc_at _ _
  · rw [← h2]; exact alloc_at _ _
theorem parse_facts {l : List Tok} {en : Int} {w w4 : World} {S S' : Nat → Prop} {pl pl' : Nat → Value} {b j : Nat} {m : MdlD} {ns : List (ByteArray × Int)} (hh : HOk w S pl (hpP l en 0 0 [] [] [] 0)) (hb : BelowX (((w.alloc (.cells #[.slice none 0 0, .slice none 0 0, .int .i64 0, .int .i64 0] 25)).alloc (.cells #[.int .i64 0] 3)).alloc (.cells #[.int .i64 0] 26)).heap.size (HBlk pl (hpP l en 0 0 [] [] [] 0)) (((w.alloc (.cells #[.slice none 0 0, .slice none 0 0, .int .i64 0, .int .i64 0] 25)).alloc (.cells #[.int .i64 0] 3)).alloc (.cells #[.int .i64 0] 26)) w4)
    (h4 : HOk w4 S' pl' (hpP l en m.goal m.var m.vars m.cons ns j)) (hpl : pl' 1000 = ptr0 b) : ∃ A1 n1 c1 A2 n2 c2, pl' 2000 = .slice A1 n1 c1 ∧ pl' 2001 = .slice A2 n2 c2 ∧ w4.cell? ⟨b, 3, none⟩ = some (.slice A1 n1 c1) ∧ w4.cell? ⟨b, 4, none⟩ = some (.slice A2 n2 c2) ∧ w4.cell? ⟨b, 5, none⟩ = some (.int .i64 m.goal) ∧ w4.cell? ⟨b, 6, none⟩ = some (.int .i64 m.var) ∧ inI64 m.goal ∧ inI64 m.var ∧
      w4.heap[w.heap.size]? = some (.cells #[.slice none 0 0, .slice none 0 0, .int .i64 0, .int .i64 0] 25 (0, 0)) ∧ w4.heap[w.heap.size + 1]? = some (.cells #[.int .i64 0] 3 (0, 0)) ∧ w4.heap[w.heap.size + 1 + 1]? = some (.cells #[.int .i64 0] 26 (0, 0)) ∧
      w4.cell? ⟨w.heap.size, 0, none⟩ = some (.slice none 0 0) ∧ w4.cell? ⟨w.heap.size, 1, none⟩ = some (.slice none 0 0) ∧ w4.cell? ⟨w.heap.size, 2, none⟩ = some (.int .i64 0) ∧ w4.cell? ⟨w.heap.size, 3, none⟩ = some (.int .i64 0) ∧ w4.cell? ⟨w.heap.size + 1, 0, none⟩ = some (.int .i64 0) ∧ w4.cell? ⟨w.heap.size + 1 + 1, 0, none⟩ = some (.int .i64 0) ∧
      w4.frozen? ⟨w.heap.size, 0, none⟩ = false ∧ w4.frozen? ⟨w.heap.size, 1, none⟩ = false ∧ w4.frozen? ⟨w.heap.size, 2, none⟩ = false ∧ w4.frozen? ⟨w.heap.size, 3, none⟩ = false ∧ w4.frozen? ⟨w.heap.size + 1, 0, none⟩ = false ∧ w4.frozen? ⟨w.heap.size + 1 + 1, 0, none⟩ = false ∧
      b ≠ w.heap.size ∧ b ≠ w.heap.size + 1 ∧ b ≠ w.heap.size + 1 + 1 ∧ w.heap.size + 1 + 1 + 1 ≤ w4.heap.size := by
  obtain ⟨b', vs, T8, eb, m8, z8, r8, _⟩ := h4.ok 1000 _ rfl
  rw [hpl] at eb; injection eb with eb; injection eb with eb; injection eb with eb; subst eb
  have z8 : vs.size = 8 := z8
  have hs : (((w.alloc (.cells #[.slice none 0 0, .slice none 0 0, .int .i64 0, .int .i64 0] 25)).alloc (.cells #[.int .i64 0] 3)).alloc (.cells #[.int .i64 0] 26)).heap.size = w.heap.size + 1 + 1 + 1 := by simp
  have hno : ∀ c, w.heap.size ≤ c → ¬ HBlk pl (hpP l en 0 0 [] [] [] 0) c := fun c hc ⟨k, o, h1, h2⟩ => by have := (hh.priv k o c h1 h2).1; omega
  have hsz3 : w.heap.size + 1 + 1 + 1 ≤ w4.heap.size := by have := hb.size; omega
  have hp4 : w4.heap[w.heap.size]? = some (.cells #[.slice none 0 0, .slice none 0 0, .int .i64 0, .int .i64 0] 25 (0, 0)) := by rw [hb.block _ (by omega) (hno _ (by omega))]; exact (alloc3 _ _ _ _).1
  have hq4 : w4.heap[w.heap.size + 1]? = some (.cells #[.int .i64 0] 3 (0, 0)) := by rw [hb.block _ (by omega) (hno _ (by omega))]; exact (alloc3 _ _ _ _).2.1
  have hr4 : w4.heap[w.heap.size + 1 + 1]? = some (.cells #[.int .i64 0] 26 (0, 0)) := by rw [hb.block _ (by omega) (hno _ (by omega))]; exact (alloc3 _ _ _ _).2.2
  obtain ⟨A1, c1, e2, _⟩ := rdV_list (row_rdV (h4.ok 2000 _ rfl))
  obtain ⟨A2, c2, e3, _⟩ := rdV_list (row_rdV (h4.ok 2001 _ rfl))
  have d3 : vs.getD 3 undef = pl' 2000 := r8 3 _ rfl
  have d4 : vs.getD 4 undef = pl' 2001 := r8 4 _ rfl
  obtain ⟨d5, k5⟩ := ((r8 5 _ rfl).flat (d := dI m.goal) rfl).int_inv
  obtain ⟨d6, k6⟩ := ((r8 6 _ rfl).flat (d := dI m.var) rfl).int_inv
  refine ⟨_, _, _, _, _, _, e2, e3, by rw [← e2, ← d3]; exact cell_at m8 (by omega), by rw [← e3, ← d4]; exact cell_at m8 (by omega), by rw [← d5]; exact cell_at m8 (by omega), by rw [← d6]; exact cell_at m8 (by omega), k5, k6, hp4, hq4, hr4, cell_at hp4 (i := 0) (by simp), cell_at hp4 (i := 1) (by simp), cell_at hp4 (i := 2) (by simp), cell_at hp4 (i := 3) (by simp), cell_at hq4 (i := 0) (by simp), cell_at hr4 (i := 0) (by simp),
    frozen_of_row _ _ _ _ _ hp4, frozen_of_row _ _ _ _ _ hp4, frozen_of_row _ _ _ _ _ hp4, frozen_of_row _ _ _ _ _ hp4, frozen_of_row _ _ _ _ _ hq4, frozen_of_row _ _ _ _ _ hr4, ?_, ?_, ?_, hsz3⟩
  · rintro rfl; rw [m8] at hp4; injection hp4 with hp4; injection hp4 with hp4; rw [hp4] at z8; cases z8
  · rintro rfl; rw [m8] at hq4; injection hq4 with hp4; injection hp4 with hp4; rw [hp4] at z8; cases z8
  · rintro rfl; rw [m8] at hr4; injection hr4 with hp4; injection hp4 with hp4; rw [hp4] at z8; cases z8
theorem store4 {w : World} {p : Nat} {Tp : TypeId} {v0 v1 v2 v3 o0 o1 o2 o3 : Value} (hp : Blk w p Tp #[o0, o1, o2, o3]) : Blk ((((w.setCell ⟨p, 0, none⟩ v0).setCell ⟨p, 1, none⟩ v1).setCell ⟨p, 2, none⟩ v2).setCell ⟨p, 3, none⟩ v3) p Tp #[v0, v1, v2, v3] := by
  have h0 := hp.set_ 0 v0
  have h1 := h0.set_ 1 v1
  have h2 := h1.set_ 2 v2
  have h3 := h2.set_ 3 v3
  have e : ((((#[o0, o1, o2, o3] : Array Value).setIfInBounds 0 v0).setIfInBounds 1 v1).setIfInBounds 2 v2).setIfInBounds 3 v3 = #[v0, v1, v2, v3] := by simp
  rw [e] at h3
  exact h3
theorem set_same {w : World} {p : Addr} {v : Value} : (w.setCell p v).os = w.os ∧ (w.setCell p v).tape = w.tape ∧ (w.setCell p v).output = w.output ∧ (w.setCell p v).heap.size = w.heap.size := ⟨rfl, rfl, rfl, by simp [World.setCell]⟩
theorem store1 {w : World} {p : Nat} {Tp : TypeId} {v o : Value} (hp : Blk w p Tp #[o]) : Blk (w.setCell ⟨p, 0, none⟩ v) p Tp #[v] := by
  have h0 := hp.set_ 0 v
  have e : (#[o] : Array Value).setIfInBounds 0 v = #[v] := by simp
  rw [e] at h0
  exact h0
theorem stores6 {w : World} {p q r : Nat} {Tp Tq Tr : TypeId} {v0 v1 v2 v3 : Value} {o0 o1 o2 o3 o4 o5 n4 n5 : Value} (hp : Blk w p Tp #[o0, o1, o2, o3]) (hq : Blk w q Tq #[o4]) (hr : Blk w r Tr #[o5]) (hpq : p ≠ q) (hpr : p ≠ r) (hqr : q ≠ r) {w5 : World}
    (h5 : (((((w.setCell ⟨p, 0, none⟩ v0).setCell ⟨p, 1, none⟩ v1).setCell ⟨p, 2, none⟩ v2).setCell ⟨p, 3, none⟩ v3).setCell ⟨q, 0, none⟩ n4).setCell ⟨r, 0, none⟩ n5 = w5) :
    Blk w5 p Tp #[v0, v1, v2, v3] ∧ Blk w5 q Tq #[n4] ∧ Blk w5 r Tr #[n5] ∧ (∀ b, b ≠ p → b ≠ q → b ≠ r → w5.heap[b]? = w.heap[b]?) ∧ w5.os = w.os ∧ w5.tape = w.tape ∧ w5.output = w.output ∧ w5.heap.size = w.heap.size := by
  have hq' : q ≠ p := hpq.symm
  have hr' : r ≠ p := hpr.symm
  have hr2 : r ≠ q := hqr.symm
  have b1 := store4 (v0 := v0) (v1 := v1) (v2 := v2) (v3 := v3) hp
  have c1 : Blk ((((w.setCell ⟨p, 0, none⟩ v0).setCell ⟨p, 1, none⟩ v1).setCell ⟨p, 2, none⟩ v2).setCell ⟨p, 3, none⟩ v3) q Tq #[o4] := (((hq.far hq' v0).far hq' v1).far hq' v2).far hq' v3
  have d1 : Blk ((((w.setCell ⟨p, 0, none⟩ v0).setCell ⟨p, 1, none⟩ v1).setCell ⟨p, 2, none⟩ v2).setCell ⟨p, 3, none⟩ v3) r Tr #[o5] := (((hr.far hr' v0).far hr' v1).far hr' v2).far hr' v3
  have f1 : ∀ b, b ≠ p → ((((w.setCell ⟨p, 0, none⟩ v0).setCell ⟨p, 1, none⟩ v1).setCell ⟨p, 2, none⟩ v2).setCell ⟨p, 3, none⟩ v3).heap[b]? = w.heap[b]? := fun b h1 => by
    rw [Below.heap_setCell _ _ _ _ h1, Below.heap_setCell _ _ _ _ h1, Below.heap_setCell _ _ _ _ h1, Below.heap_setCell _ _ _ _ h1]
  have s1 : ((((w.setCell ⟨p, 0, none⟩ v0).setCell ⟨p, 1, none⟩ v1).setCell ⟨p, 2, none⟩ v2).setCell ⟨p, 3, none⟩ v3).os = w.os ∧ ((((w.setCell ⟨p, 0, none⟩ v0).setCell ⟨p, 1, none⟩ v1).setCell ⟨p, 2, none⟩ v2).setCell ⟨p, 3, none⟩ v3).tape = w.tape ∧ ((((w.setCell ⟨p, 0, none⟩ v0).setCell ⟨p, 1, none⟩ v1).setCell ⟨p, 2, none⟩ v2).setCell ⟨p, 3, none⟩ v3).output = w.output ∧ ((((w.setCell ⟨p, 0, none⟩ v0).setCell ⟨p, 1, none⟩ v1).setCell ⟨p, 2, none⟩ v2).setCell ⟨p, 3, none⟩ v3).heap.size = w.heap.size := by
    simp only [set_same, and_self]
  generalize ((((w.setCell ⟨p, 0, none⟩ v0).setCell ⟨p, 1, none⟩ v1).setCell ⟨p, 2, none⟩ v2).setCell ⟨p, 3, none⟩ v3) = w1 at h5 b1 c1 d1 f1 s1
  subst h5
  have b2 := (b1.far (p := ⟨q, 0, none⟩) hpq n4).far (p := ⟨r, 0, none⟩) hpr n5
  have c2 := (store1 (v := n4) c1).far (p := ⟨r, 0, none⟩) hqr n5
  have d2 := store1 (v := n5) (d1.far (p := ⟨q, 0, none⟩) hr2 n4)
  refine ⟨b2, c2, d2, fun b h1 h2 h3 => ?_, ?_⟩
  · rw [Below.heap_setCell _ _ _ _ h3, Below.heap_setCell _ _ _ _ h2, f1 b h1]
  · simp only [set_same]
    exact s1
set_option maxRecDepth 100000 in
theorem text_parse_ok {l : List Tok} {en : Int} (hd : NumOk l) : SatH Tryz.prog f_text_parse [.ptr 1000 0] (hpP l en 0 0 [] [] [] 0) (dR (parseP l en)) [] := by
  intro w S vs pl hS hsz hv hh hg
  obtain ⟨b, e1, rfl⟩ := ptr_args (P := Tryz.prog) hsz (hv 0 _ rfl)
  have HC := Lib.hid (fun (w3 : World) (hb : Below w.heap.size w w3) => model_call hd hS e1 hh hg hb)
  have hmf : ∀ (fn : Fn) (first cap : Array Value) (w : World), (Instr.makeFunc fn first cap).run Tryz.prog w = .ok (.func fn first cap) w := fun _ _ _ _ => rfl
  have hi := here_i64 hh
  have he := fun j e => errB_model (l := l) (j := j) (e := e)
  clear hv hsz
  unfold parseP
  cases hm : modelP isNameS numV l with
  | err j e =>
    have he := he j e hm
    have hi := hi j
    rw [hm] at HC
    go_enter_defers Tryz.func42, Tryz.ntmps42
    go_wp2_with (go_at_call 94; refine (HC.out _ ?_).mono ?_)
    · (repeat' (first | (with_reducible exact Below.refl _ _) | (with_reducible assumption) | (with_reducible refine below_drewN ?_ _) | (with_reducible refine Below.alloc ?_ ?_ _) | (with_reducible refine Below.setCell ?_ ?_ _) | (with_reducible refine Below.drew ?_) | go_size))
    · rintro e' w4 hb rfl
      have hsz3 : w.heap.size + 1 + 1 + 1 ≤ w4.heap.size := by have := hb.size; simpa using this
      have hno : ∀ c, w.heap.size ≤ c → ¬ HBlk pl (hpP l en 0 0 [] [] [] 0) c := fun c hc ⟨k, o, h1, h2⟩ => by have := (hh.priv k o c h1 h2).1; omega
      have hp4 : w4.heap[w.heap.size]? = some (.cells #[.slice none 0 0, .slice none 0 0, .int .i64 0, .int .i64 0] 25 (0, 0)) := by
        rw [hb.block _ (by omega) (hno _ (by omega))]; exact (alloc3 _ _ _ _).1
      have hq4 : w4.heap[w.heap.size + 1]? = some (.cells #[.int .i64 0] 3 (0, 0)) := by
        rw [hb.block _ (by omega) (hno _ (by omega))]; exact (alloc3 _ _ _ _).2.1
      have hr4 : w4.heap[w.heap.size + 1 + 1]? = some (.cells #[.int .i64 0] 26 (0, 0)) := by
        rw [hb.block _ (by omega) (hno _ (by omega))]; exact (alloc3 _ _ _ _).2.2
      have hw4 : BelowX w.heap.size (HBlk pl (hpP l en 0 0 [] [] [] 0)) w w4 := by
        refine BelowX.trans (.of ?_) ⟨hb.os, hb.tape, hb.output, hb.size, fun k hk => hb.block k (by omega)⟩
        (repeat' (first | (with_reducible exact Below.refl _ _) | (with_reducible assumption) | (with_reducible refine below_drewN ?_ _) | (with_reducible refine Below.alloc ?_ ?_ _) | (with_reducible refine Below.setCell ?_ ?_ _) | (with_reducible refine Below.drew ?_) | go_size))
      have hg4 : GOk Tryz.prog w4 (fun c => c = w.heap.size ∨ c = w.heap.size + 1 ∨ c = w.heap.size + 1 + 1) := hg.step hw4 fun c h => .inr (by omega)
      show Leaves _ _ _ _ _ _ _
      refine leaves_cons (f := 93) (args := #[ptr0 w.heap.size, ptr0 (w.heap.size + 1), ptr0 (w.heap.size + 1 + 1)]) (by simp) (by simp [go_sem]) ?_
      refine (text_catch_pan hi (by rcases he with rfl | rfl <;> (unfold inI64; omega)) _ _ _ w4 hp4 hq4 hr4 (by omega) (by omega) (by omega) hg4).mono ?_
      rintro en' u' w5 ⟨rfl, rfl, hc⟩
      obtain ⟨vs, Tp, m1, m2, m3⟩ := hc.m
      obtain ⟨Tq, a1⟩ := hc.at_
      obtain ⟨Tr, r1⟩ := hc.e
      refine ⟨_, parse_results rfl rfl rfl m1 m2 a1 r1, ?_⟩
      refine ⟨_, fun b => w4.heap.size ≤ b ∧ b < w5.heap.size, pl, rfl, Rp.rd (.tup _ _ rfl fun i d hd => ?_), ⟨fun k o h => (by cases h), fun k o b h => (by cases h), fun k k' o o' b h => (by cases h)⟩, fun b h => h.2, fun b h => .inr (.inr (by omega)), fun b ⟨k, o, h, _⟩ => (by cases h), fun _ _ => rfl, ?_⟩
      · match i, hd with
        | 0, hd =>
          injection hd with hd; subst hd
          refine .agg _ _ rfl fun i d hd => ?_
          have h := m3 i d hd
          match i, hd with
          | 0, hd => exact h
          | 1, hd => exact h
          | 2, hd => exact h
          | 3, hd => exact h
        | 1, hd => injection hd with hd; subst hd; exact .int_mk hi
        | 2, hd => injection hd with hd; subst hd; exact .int_mk (by rcases he with rfl | rfl <;> (unfold inI64; omega))
      · exact hw4.trans ⟨hc.below.os, hc.below.tape, hc.below.output, hc.below.size, fun k hk hn => hc.below.block k (by omega) (by omega)⟩
  | ok x j =>
    obtain ⟨m, ns⟩ := x
    rw [hm] at HC
    go_enter_defers Tryz.func42, Tryz.ntmps42
    go_wp2_with (go_at_call 94; refine (HC.out _ (by (repeat' (first | (with_reducible exact Below.refl _ _) | (with_reducible assumption) | (with_reducible refine below_drewN ?_ _) | (with_reducible refine Below.alloc ?_ ?_ _) | (with_reducible refine Below.setCell ?_ ?_ _) | (with_reducible refine Below.drew ?_) | go_size)))).mono ?_; rintro _ w4 ⟨hb, rfl, S', pl', h4, hS4, hsrc, hpl, hblk⟩; obtain ⟨A1, n1, k1, A2, n2, k2, e2, e3, c3, c4, c5, c6, g1, g2, hp4, hq4, hr4, p0, p1, p2, p3, q0, r0, fp, fp1, fp2, fp3, fq, fr, nb1, nb2, nb3, hsz3⟩ := parse_facts hh hb h4 hpl)
    generalize hw5 : World.setCell _ _ _ = w5
    obtain ⟨bp, bq, br, old, os5, ta5, ou5, sz5⟩ := stores6 hp4 hq4 hr4 (by omega) (by omega) (by omega) hw5
    clear hw5 p0 p1 p2 p3 q0 r0 fp fp1 fp2 fp3 fq fr c3 c4 c5 c6
    have hno : ∀ c, HBlk pl (hpP l en 0 0 [] [] [] 0) c → c < w.heap.size := fun c ⟨k, o, h1, h2⟩ => (hh.priv k o c h1 h2).1
    have hs3 : (((w.alloc (.cells #[.slice none 0 0, .slice none 0 0, .int .i64 0, .int .i64 0] 25)).alloc (.cells #[.int .i64 0] 3)).alloc (.cells #[.int .i64 0] 26)).heap.size = w.heap.size + 1 + 1 + 1 := by simp
    have hw4 : BelowX w.heap.size (HBlk pl (hpP l en 0 0 [] [] [] 0)) w w4 := by
      refine BelowX.trans (.of ?_) ⟨hb.os, hb.tape, hb.output, hb.size, fun k hk => hb.block k (by omega)⟩
      (repeat' (first | (with_reducible exact Below.refl _ _) | (with_reducible assumption) | (with_reducible refine below_drewN ?_ _) | (with_reducible refine Below.alloc ?_ ?_ _) | (with_reducible refine Below.setCell ?_ ?_ _) | (with_reducible refine Below.drew ?_) | go_size))
    show Leaves _ _ _ _ _ _ _
    refine leaves_cons (f := 93) (args := #[ptr0 w.heap.size, ptr0 (w.heap.size + 1), ptr0 (w.heap.size + 1 + 1)]) (by simp) (by simp [go_sem]) ?_
    refine (text_catch_idle _ _ _ w5).mono ?_
    rintro en' u' w6 ⟨rfl, rfl, rfl⟩
    refine ⟨_, parse_results rfl rfl rfl bp rfl bq br, ?_⟩
    have hfar : ∀ c, S' c ∨ oblk (pl' 2000) = some c ∨ oblk (pl' 2001) = some c → c ≠ w.heap.size ∧ c ≠ w.heap.size + 1 ∧ c ≠ w.heap.size + 1 + 1 ∧ (S c ∨ HBlk pl (hpP l en 0 0 [] [] [] 0) c ∨ w.heap.size ≤ c) ∧ c < w4.heap.size := fun c hc => by
      rcases hc with hc | hc | hc
      · have h1 := hS4 c hc
        rcases hsrc c hc with h | h | h
        · have := hS c h; exact ⟨by omega, by omega, by omega, .inl h, h1⟩
        · have := hno c h; exact ⟨by omega, by omega, by omega, .inr (.inl h), h1⟩
        · exact ⟨by omega, by omega, by omega, .inr (.inr (by omega)), h1⟩
      · have h1 := (h4.priv 2000 _ c rfl hc).1
        rcases hblk c ⟨2000, _, rfl, hc⟩ with h | h
        · have := hno c h; exact ⟨by omega, by omega, by omega, .inr (.inl h), h1⟩
        · exact ⟨by omega, by omega, by omega, .inr (.inr (by omega)), h1⟩
      · have h1 := (h4.priv 2001 _ c rfl hc).1
        rcases hblk c ⟨2001, _, rfl, hc⟩ with h | h
        · have := hno c h; exact ⟨by omega, by omega, by omega, .inr (.inl h), h1⟩
        · exact ⟨by omega, by omega, by omega, .inr (.inr (by omega)), h1⟩
    have hkeep : ∀ c, S' c ∨ oblk (pl' 2000) = some c ∨ oblk (pl' 2001) = some c → w6.heap[c]? = w4.heap[c]? := fun c hc => let ⟨h1, h2, h3, _⟩ := hfar c hc; old c h1 h2 h3
    have v1 : Rp w6 (fun c => S' c ∨ oblk (pl' 2000) = some c ∨ oblk (pl' 2001) = some c) (.slice A1 n1 k1) (.sl .var m.vars) := by
      refine .sl .var _ _ ?_
      have h := row_rdV (h4.ok 2000 _ rfl)
      rw [e2] at h
      exact RdV.mono h (fun c hc => hkeep c (by rw [e2]; rcases hc with h | h; exact .inl h; exact .inr (.inl h))) fun c hc => by rw [e2]; rcases hc with h | h; exact .inl h; exact .inr (.inl h)
    have v2 : Rp w6 (fun c => S' c ∨ oblk (pl' 2000) = some c ∨ oblk (pl' 2001) = some c) (.slice A2 n2 k2) (.sl .con m.cons) := by
      refine .sl .con _ _ ?_
      have h := row_rdV (h4.ok 2001 _ rfl)
      rw [e3] at h
      exact RdV.mono h (fun c hc => hkeep c (by rw [e3]; rcases hc with h | h; exact .inl h; exact .inr (.inr h))) fun c hc => by rw [e3]; rcases hc with h | h; exact .inl h; exact .inr (.inr h)
    refine ⟨_, fun c => S' c ∨ oblk (pl' 2000) = some c ∨ oblk (pl' 2001) = some c, pl, rfl, Rp.rd (.tup _ _ rfl fun i d hd => ?_), ⟨fun k o h => (by cases h), fun k o b h => (by cases h), fun k k' o o' b h => (by cases h)⟩, fun c hc => by rw [sz5]; exact (hfar c hc).2.2.2.2, fun c hc => (hfar c hc).2.2.2.1, fun b ⟨k, o, h, _⟩ => (by cases h), fun _ _ => rfl, ?_⟩
    · match i, hd with
      | 0, hd =>
        injection hd with hd; subst hd
        refine .agg _ _ rfl fun i d hd => ?_
        match i, hd with
        | 0, hd => injection hd with hd; subst hd; exact v1
        | 1, hd => injection hd with hd; subst hd; exact v2
        | 2, hd => injection hd with hd; subst hd; exact .int_mk g1
        | 3, hd => injection hd with hd; subst hd; exact .int_mk g2
      | 1, hd => injection hd with hd; subst hd; exact .int_mk (by unfold inI64; omega)
      | 2, hd => injection hd with hd; subst hd; exact .int_mk (by unfold inI64; omega)
    · exact hw4.trans ⟨os5, ta5, ou5, by omega, fun k hk hn => old k (by omega) (by omega) (by omega)⟩
end Go.Proofs.YtogdmcebojiojaaGreatDoor

/- Scans, told to the denotation; what whole texts are parsed as, by both. -/
namespace Go.Proofs.YtogdmcebojiojaaGreatDoor
open Go.RowKit
set_option linter.unusedVariables false
set_option linter.unusedSimpArgs false

theorem scanR_bd : ∀ (l : List UInt8) (i : Nat) (note : Bool) (out : List Tok) (k : Nat), 0 ≤ (scanR l i note out k).2.1 ∧ (scanR l i note out k).2.1 ≤ ((i + l.length : Nat) : Int) ∧ 0 ≤ (scanR l i note out k).2.2 ∧ (scanR l i note out k).2.2 ≤ 2
  | [], i, note, out, k => by simp only [scanR]; omega
  | c :: r, i, note, out, k + 1 => by
    have h := scanR_bd r (i + 1) note out k
    rw [scanR, List.length_cons]; omega
  | c :: r, i, note, out, 0 => by
    rw [scanR, List.length_cons]
    split
    · have := scanR_bd r (i + 1) (c != 10) out 0; omega
    · split
      · have := scanR_bd r (i + 1) false out 0; omega
      · simp only
        split
        · have := scanR_bd r (i + 1) false (out ++ [⟨(tokenAt (c :: r)).1, i, bs ((c :: r).take (tokenAt (c :: r)).2)⟩]) ((tokenAt (c :: r)).2 - 1); omega
        · rename_i h
          refine ⟨by simp, by simp only; omega, ?_⟩
          simp only
          unfold tokBad
          split
          · omega
          split
          · omega
          split <;> omega
theorem scanS_bd (l : List UInt8) : inI64 (scanS l).2.1 ∧ inI64 (scanS l).2.2 := by
  unfold scanS
  split
  · simp only; unfold inI64; omega
  · have := scanR_bd l 0 false [] 0
    unfold inI64; omega
theorem sat_scan {P : Program} {f : FuncId} {s : ByteArray} (h : ∀ w, Calls P f #[.string s] w fun e w' => ∃ v, e = .returned (.tuple #[v, .int .i64 (scanS s.data.toList).2.1, .int .i64 (scanS s.data.toList).2.2]) ∧ Fresh w' w.heap.size v (scanS s.data.toList).1 ∧ Below w.heap.size w w') :
    Sat P f [.str s] (.tup [.sl .tok (scanS s.data.toList).1, dI (scanS s.data.toList).2.1, dI (scanS s.data.toList).2.2]) := by
  intro w S vs hS hl hv _
  obtain ⟨e0, hz⟩ := (hv 0 _ rfl).str_inv
  have e : vs = #[.string s] := by
    have hl : vs.size = 1 := hl
    apply Array.ext
    · simpa using hl
    · intro i h1 h2
      have : i = 0 := by omega
      subst this
      simpa [Array.getD_eq_getD_getElem?, h1] using e0
  subst e
  refine (h w).mono fun e w' ⟨v, he, hf, hb⟩ => ⟨_, he, .tup _ _ rfl fun i d hd => ?_, hb⟩
  match i, hd with
  | 0, hd => injection hd with hd; subst hd; exact .sl .tok _ _ (RdV.mono hf (fun _ _ => rfl) fun b hb => .inr hb)
  | 1, hd => injection hd with hd; subst hd; exact .int_mk (scanS_bd _).1
  | 2, hd => injection hd with hd; subst hd; exact .int_mk (scanS_bd _).2
theorem token_Scan_ok (s : ByteArray) : Sat Tryz.prog f_token_Scan [.str s] (.tup [toD (.list .tok) (scanS s.data.toList).1, toD .int (scanS s.data.toList).2.1, toD .int (scanS s.data.toList).2.2]) := sat_scan fun w => scan_any s w
/-! ### Tokens that a scan gives -/
theorem tokenAt_dig {c : UInt8} {r : List UInt8} {n : Nat} (h : tokenAt (c :: r) = (2, n)) : isD c = true ∧ n = 1 + (r.takeWhile isD).length := by
  rw [tokenAt] at h
  split at h
  · injection h with h _; cases h
  split at h
  · rename_i h1; injection h with _ h; exact ⟨h1, h.symm⟩
  split at h
  · injection h with h _; cases h
  split at h
  · injection h with h _; cases h
  · injection h with h _; cases h
theorem tokenAt_nodig {c : UInt8} {r : List UInt8} {k n : Nat} (h : tokenAt (c :: r) = (k, n)) (hk : k ≠ 2) (hk0 : k ≠ 0) : isD c = false := by
  rw [tokenAt] at h
  cases hd : isD c with
  | false => rfl
  | true =>
    split at h
    · rename_i h1
      unfold isD isDN at hd; unfold isL isLN at h1
      simp only [Bool.and_eq_true, decide_eq_true_eq] at hd h1
      omega
    · injection h with h _; omega
theorem mem_tw {p : UInt8 → Bool} : ∀ (l : List UInt8) (x : UInt8), x ∈ l.takeWhile p → p x = true
  | [], x, h => by cases h
  | c :: r, x, h => by
    rw [List.takeWhile_cons] at h
    split at h
    · rename_i hc
      rcases List.mem_cons.1 h with rfl | h
      · exact hc
      · exact mem_tw r x h
    · cases h
theorem byteAt_list {s : ByteArray} {l : List UInt8} (h : s.data.toList = l) (i : Nat) : byteAt s i = ((l.getD i 0).toNat : Int) := by
  unfold byteAt
  subst h
  congr 2
  rw [Array.getD_eq_getD_getElem?, List.getD_eq_getElem?_getD, Array.getElem?_toList]
theorem chain_dig {L : List UInt8} : ∀ {ts : List Tok} {lo : Nat}, Chain L lo ts → DigOk ts
  | [], _, _ => fun t ht => by cases ht
  | t :: ts, lo, ⟨j, n, h1, h2, h3, h4, h5, ⟨c, r, h6, h7, h8, h9⟩, h10⟩ => fun t' ht' => by
    rcases List.mem_cons.1 ht' with rfl | hm
    · have hx : t'.text.data.toList = (c :: r).take n := by rw [h5, h6]; unfold bs; rfl
      have hz : t'.text.size = n := by
        have h11 : t'.text.size = (t'.text.data.toList).length := rfl
        have h12 := congrArg List.length h6
        rw [List.length_drop] at h12
        rw [h11, hx, List.length_take]
        omega
      refine ⟨fun hk => ?_, fun hk => ?_⟩
      · have h7' : tokenAt (c :: r) = (2, n) := by rw [h7, hk]; rfl
        obtain ⟨hd, hn⟩ := tokenAt_dig h7'
        have h9' : tokBad 2 n c = 0 := by rw [hk] at h9; exact h9
        refine ⟨by omega, ?_, fun i hi => ?_⟩
        · unfold tokBad at h9'
          rw [if_neg (by decide)] at h9'
          rw [hz]
          by_cases h4 : n > 4
          · rw [if_pos (by simp; omega)] at h9'; cases h9'
          · omega
        · rw [byteAt_list hx]
          have hall : ∀ x ∈ (c :: r).take n, isD x = true := by
            intro x hxm
            obtain ⟨m, rfl⟩ : ∃ m, n = m + 1 := ⟨n - 1, by omega⟩
            rw [List.take_succ_cons] at hxm
            rcases List.mem_cons.1 hxm with rfl | hxm
            · exact hd
            · have e : m = (r.takeWhile isD).length := by omega
              have e2 : r.take m = r.takeWhile isD := by
                rw [e]
                exact (List.prefix_iff_eq_take.1 (List.takeWhile_prefix isD)).symm
              rw [e2] at hxm
              exact mem_tw _ _ hxm
          have hlen : i < ((c :: r).take n).length := by
            have h11 : t'.text.size = (t'.text.data.toList).length := rfl
            rw [hx] at h11; omega
          have hg : ((c :: r).take n).getD i 0 = ((c :: r).take n)[i] := by rw [List.getD_eq_getElem?_getD, List.getElem?_eq_getElem hlen]; rfl
          rw [hg]
          have := hall _ (List.getElem_mem hlen)
          unfold isD isDN at this
          simp only [Bool.and_eq_true, decide_eq_true_eq] at this
          omega
      · have hk' : t'.kind.toNat ≠ 2 := by omega
        have hk0 : t'.kind.toNat ≠ 0 := by intro e; rw [e] at h9; unfold tokBad at h9; rw [if_pos rfl] at h9; cases h9
        have := tokenAt_nodig h7 hk' hk0
        obtain ⟨m, rfl⟩ : ∃ m, n = m + 1 := ⟨n - 1, by omega⟩
        rw [byteAt_list hx, List.take_succ_cons]
        show ¬ (48 ≤ (c.toNat : Int) ∧ (c.toNat : Int) ≤ 57)
        unfold isD isDN at this
        simp only [Bool.and_eq_false_iff, decide_eq_false_iff_not] at this
        omega
    · exact chain_dig h10 t' hm
theorem scan_dig (l : List UInt8) : DigOk (scanS l).1 := by
  by_cases h : (scanS l).2.2 = 0
  · exact chain_dig (scanS_chain h).1
  · rw [scanS_bad h]; exact fun t ht => by cases ht
/-! ### Both parsers -/
def parseS (s : ByteArray) : MdlD × Int × Int := if (scanS s.data.toList).2.2 ≠ 0 then (mEmpty, (scanS s.data.toList).2.1, (scanS s.data.toList).2.2) else parseT (scanS s.data.toList).1 s.size
abbrev dT (x : MdlD × Int × Int) : D := .tup [toD .mdl x.1, toD .int x.2.1, toD .int x.2.2]
theorem text_Parse_ok (s : ByteArray) : Sat Tryz.prog f_text_Parse [.str s] (dT (parseS s)) :=
  text_Parse_sat s fun ok => by
    rw [text_Parse_eq]
    refine call3 (t := .list .tok) (u := .int) (v := .int) (token_Scan_ok s) ?_
    unfold parseS
    by_cases h : (scanS s.data.toList).2.2 = 0
    · rw [if_neg (fun x => x h)]
      refine dnf h ?_
      have hp := text_parse_ok (l := (scanS s.data.toList).1) (en := (s.size : Int)) (numOk_of (scan_dig _))
      unfold parseP at hp
      unfold parseT finM
      refine ⟨_, _, _, hp, ?_⟩
      cases hm : modelP isNameS numV (scanS s.data.toList).1 with
      | ok x j =>
        obtain ⟨m, ns⟩ := x
        simp only
        refine dt trivial (call1 (t := .int) (model_Check_ok m) ?_)
        by_cases hc : checkM m = 0
        · rw [if_pos hc]; exact dnf hc rfl
        · rw [if_neg hc]; exact dnt hc rfl
      | err j e =>
        have he : e ≠ 0 := by rcases errB_model hm with rfl | rfl <;> decide
        simp only
        exact df he (dnt he rfl)
    · rw [if_pos h]
      exact dnt h rfl
end Go.Proofs.YtogdmcebojiojaaGreatDoor

/- The document's test of two models: are they the same? -/
namespace Go.Proofs.YtogdmcebojiojaaGreatDoor
open Go.RowKit
set_option linter.unusedVariables false
set_option linter.unusedSimpArgs false

theorem same_clause_ok (a b : List LitD) : Sat Tryz.prog f_cordonref_SameClause [.sl .lit a, .sl .lit b] (dB (decide (a = b))) :=
  cordonref_SameClause_sat a b fun ok => by
    rw [cordonref_SameClause_eq]
    refine sel_intro (fun e => ?_) fun e => ?_
    · have e : a.length ≠ b.length := by simp at e; omega
      rw [decide_eq_false fun h => e (by rw [h])]
    have e : a.length = b.length := by simp at e; omega
    have hz := zip_same a b e
    refine any0 (I := fun n v => cordonref_SameClause_I0 a b _ n v) (a.zip b) (fun x => !decide (x.1 = x.2)) ?_ (X := D.bool false = dB (decide (a = b))) (Y := D.bool true = dB (decide (a = b))) ?_ (fun n k h hX hn => ?_) fun n hY => ?_
    · have : a.length ≤ 9223372036854775807 := okLen (ok1 ok)
      rw [List.length_zip]
      omega
    · rw [hz]; cases decide (a = b) <;> rfl
    · rw [List.length_zip] at h
      have h1 : k < a.length := by omega
      have h2 : k < b.length := by omega
      rw [cordonref_SameClause_I0_eq, sel_lt h1, at_nat (t := .lit) h1, at_nat (t := .lit) h2]
      rw [List.getElem_zip] at hX hn
      exact ⟨inb_nat h1, inb_nat h2, sel_intro (fun e => hX e) fun e => hn e⟩
    · have hl : (a.zip b).length = a.length := by rw [List.length_zip]; omega
      rw [hl, cordonref_SameClause_I0_eq, sel_end]; exact hY
theorem same_lists_ok (a b : List (List Int)) : Sat Tryz.prog f_cordonref_SameLists [dS a, dS b] (dB (decide (a = b))) :=
  cordonref_SameLists_sat a b fun ok => by
    have hl : a.length ≤ 9223372036854775807 := okLen (t := .list .int) (ok1 ok)
    rw [cordonref_SameLists_eq]
    refine sel_intro (fun e => ?_) fun e => ?_
    · rw [decide_eq_false (p := a = b) fun h => by subst h; simp at e]
    have e : a.length = b.length := by simp at e; omega
    have hz : (a.zip b).length = a.length := by rw [List.length_zip]; omega
    refine any0 (I := fun n v => cordonref_SameLists_I0 a b _ n v) (a.zip b) (fun x => !decide (x.1 = x.2)) (by omega) (X := dB false = dB (decide (a = b))) (Y := dB true = dB (decide (a = b))) (by rw [zip_same a b e]; cases decide (a = b) <;> rfl) (fun n k h hX hn => ?_) fun n hY => ?_
    · have hk : k < a.length := by omega
      rw [List.getElem_zip] at hX hn
      rw [cordonref_SameLists_I0_eq, sel_lt hk, at_nat (t := .list .int) hk, at_nat (t := .list .int) (show k < b.length by omega)]
      exact ⟨inb_nat hk, inb_nat (by omega), call1 (cordonref_SameInts_ok _ _) (sel_intro hX hn)⟩
    · rw [hz, cordonref_SameLists_I0_eq, sel_end]; exact hY
theorem ne0_ne {a b : Int} (e : (!decide (a = b)) = true) : a ≠ b := by simpa using e
theorem same_con_ok (a b : ConD) : Sat Tryz.prog f_cordonref_sameCon [dC a, dC b] (dB (decide (a = b))) :=
  cordonref_sameCon_sat a b fun ok => by
    rw [cordonref_sameCon_eq]
    have no : ∀ {p : Prop}, ¬ p → (a = b → p) → dB false = dB (decide (a = b)) := fun h f => by rw [decide_eq_false fun e => h (f e)]
    refine sel_intro (fun e1 => ?_) fun e1 => no (of_decide_eq_false e1) fun h => by rw [h]
    refine call1 (t := .bool) (cordonref_SameInts_ok _ _) (sel_intro (fun e2 => ?_) fun e2 => no (of_decide_eq_false e2) fun h => by rw [h])
    refine call1 (t := .bool) (cordonref_SameInts_ok _ _) (sel_intro (fun e3 => ?_) fun e3 => no (of_decide_eq_false e3) fun h => by rw [h])
    refine sel_intro (fun e4 => ?_) fun e4 => no (of_decide_eq_false e4) fun h => by rw [h]
    refine call1 (t := .bool) (same_lists_ok _ _) (sel_intro (fun e5 => ?_) fun e5 => no (of_decide_eq_false e5) fun h => by rw [h])
    refine call1 (t := .bool) (same_clause_ok _ _) ?_
    have h1 := of_decide_eq_true e1; have h2 := of_decide_eq_true e2; have h3 := of_decide_eq_true e3; have h4 := of_decide_eq_true e4; have h5 := of_decide_eq_true e5
    cases a; cases b
    simp only at h1 h2 h3 h4 h5
    subst h1 h2 h3 h4 h5
    simp
theorem cordonref_SameModel_ok (a b : MdlD) : Sat Tryz.prog f_cordonref_SameModel [dM a, dM b] (dB (decide (a = b))) :=
  cordonref_SameModel_sat a b fun ok => by
    have hm := ok1 ok
    have hl : a.vars.length ≤ 9223372036854775807 := okCLen (t := .var) (okA (i := 0) hm rfl)
    have hl2 : a.cons.length ≤ 9223372036854775807 := okCLen (t := .con) (okA (i := 1) hm rfl)
    rw [cordonref_SameModel_eq]
    have no : ∀ {p : Prop}, ¬ p → (a = b → p) → dB false = dB (decide (a = b)) := fun h f => by rw [decide_eq_false fun e => h (f e)]
    refine sel_intro (fun e => no (p := a.vars.length = b.vars.length) (by simp at e; omega) fun h => by rw [h]) fun e1 => ?_
    refine sel_intro (fun e => no (p := a.cons.length = b.cons.length) (by simp at e; omega) fun h => by rw [h]) fun e2 => ?_
    refine sel_intro (fun e => no (p := a.goal = b.goal) (ne0_ne e) fun h => by rw [h]) fun e3 => ?_
    refine sel_intro (fun e => no (p := a.var = b.var) (ne0_ne e) fun h => by rw [h]) fun e4 => ?_
    have e1 : a.vars.length = b.vars.length := by simp at e1; omega
    have e2 : a.cons.length = b.cons.length := by simp at e2; omega
    have e3 : a.goal = b.goal := by simpa using e3
    have e4 : a.var = b.var := by simpa using e4
    have hz : (a.vars.zip b.vars).length = a.vars.length := by rw [List.length_zip]; omega
    have hz2 : (a.cons.zip b.cons).length = a.cons.length := by rw [List.length_zip]; omega
    refine any1 (I := fun n v => cordonref_SameModel_I0 a b _ n v) (a.vars.zip b.vars) (fun x => !decide (x.1 = x.2)) (by omega) (X := dB false = dB (decide (a = b))) (fun h => ?_) (fun n k h hX hn => ?_) fun hv n => ?_
    · rw [zip_same _ _ e1] at h
      exact no (p := a.vars = b.vars) (by simpa using h) fun h => by rw [h]
    · have hk : k < a.vars.length := by omega
      rw [List.getElem_zip] at hX hn
      rw [cordonref_SameModel_I0_eq, sel_lt hk, at_nat (t := .var) hk, at_nat (t := .var) (show k < b.vars.length by omega)]
      exact ⟨inb_nat hk, inb_nat (by omega), sel_intro hX hn⟩
    · rw [zip_same _ _ e1] at hv
      have hv : a.vars = b.vars := by simpa using hv
      rw [hz, cordonref_SameModel_I0_eq, sel_end]
      refine any1 (I := fun n v => cordonref_SameModel_I2 a b _ n v) (a.cons.zip b.cons) (fun x => !decide (x.1 = x.2)) (by omega) (X := dB false = dB (decide (a = b))) (fun h => ?_) (fun n k h hX hn => ?_) fun hc n => ?_
      · rw [zip_same _ _ e2] at h
        exact no (p := a.cons = b.cons) (by simpa using h) fun h => by rw [h]
      · have hk : k < a.cons.length := by omega
        rw [List.getElem_zip] at hX hn
        rw [cordonref_SameModel_I2_eq, sel_lt hk, at_nat (t := .con) hk, at_nat (t := .con) (show k < b.cons.length by omega)]
        exact ⟨inb_nat hk, inb_nat (by omega), call1 (t := .bool) (same_con_ok _ _) (sel_intro hX hn)⟩
      · rw [zip_same _ _ e2] at hc
        have hc : a.cons = b.cons := by simpa using hc
        rw [hz2, cordonref_SameModel_I2_eq, sel_end]
        have : a = b := by cases a; cases b; simp_all
        rw [decide_eq_true this]
end Go.Proofs.YtogdmcebojiojaaGreatDoor
