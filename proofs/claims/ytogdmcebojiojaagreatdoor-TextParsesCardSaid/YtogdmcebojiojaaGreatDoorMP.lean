/- Texts of this proof, one behind the other: nothing is handed in but what is proved here; no condition. -/
import Derived.Test.YtogdmcebojiojaaGreatDoorWText
import Derived.Recover
import Derived.Test.YtogdmcebojiojaaGreatDoorMO
import Derived.Test.YtogdmcebojiojaaGreatDoorWCordonref
import Derived.Test.YtogdmcebojiojaaGreatDoorME
import Derived.Test.YtogdmcebojiojaaGreatDoorQMap
/- The parser's deferred closure: a fault is caught, and told. -/
namespace Go.Proofs.YtogdmcebojiojaaGreatDoor
open Go.RowKit
set_option linter.unusedVariables false
set_option linter.unusedSimpArgs false

def mEmpty : MdlD := ⟨[], [], 0, 0⟩
abbrev dR (x : MdlD × Int × Int) : D := .tup [dM x.1, dI x.2.1, dI x.2.2]
def catchA : Ann := { own := [], live := [], n := 22, first := true }
/-- Where the results lie behind a fault. -/
structure Caught (w0 w : World) (p q r : Nat) (a e : Int) : Prop where
  below : BelowX w0.heap.size (fun b => b = p ∨ b = q ∨ b = r) w0 w
  m : ∃ vs T, w.heap[p]? = some (.cells vs T (0, 0)) ∧ vs.size = 4 ∧ ∀ i d, [D.sl .var ([] : List VarD), D.sl .con ([] : List ConD), dI 0, dI 0][i]? = some d → Rp w (fun b => w0.heap.size ≤ b ∧ b < w.heap.size) (vs.getD i undef) d
  at_ : ∃ T, w.heap[q]? = some (.cells #[.int .i64 a] T (0, 0))
  e : ∃ T, w.heap[r]? = some (.cells #[.int .i64 e] T (0, 0))
theorem catch_den (a e : Int) (Q : Ex → Option HObj → Option HObj → Option HObj → Prop) : den Tryz.prog Ev catchA (sub [1,1,0,1,1] (bodyOf Tryz.f93)) 0 ⟨[(0,.ptr 1000 0),(1,.ptr 1001 0),(2,.ptr 1002 0),(4,.ptr 3000 0)],[(1000,HObj.cells [D.sl .var ([] : List VarD), D.sl .con ([] : List ConD), dI 0, dI 0]),(1001,HObj.cells [dI 0]),(1002,HObj.cells [dI 0]),(3000, HObj.cells [dI a, dI e])]⟩ (fun x σ => Q x (look 1000 σ.hp) (look 1001 σ.hp) (look 1002 σ.hp)) = (fun p : Prop => ((((p) ∧ ((p) ∧ p))) ∧ (((p) ∧ p)) ∧ ((p) ∧ p))) (Q .normal (some (HObj.cells [D.sl .var ([] : List VarD), D.sl .con ([] : List ConD), dI 0, dI 0])) (some (HObj.cells [dI a])) (some (HObj.cells [dI e]))) := by kernel_rfl
theorem nil_sl {w : World} {S : Nat → Prop} (t : Ty) : Rp w S (.slice none 0 0) (.sl t []) :=
  RdC.sl (t := t) ⟨none, 0, rfl, by simp, by simp, by simp, fun _ => rfl, fun hn => absurd hn (by simp)⟩
/-- The fault that is given up by. -/
abbrev flt' (a e : Int) : Value := .iface 158 (.agg #[.int .i64 a, .int .i64 e])
abbrev ptr0 (b : Nat) : Value := .pointer (some ⟨b, 0, none⟩)
theorem catch_tail {a e : Int} {w0 w : World} {act : Act} {p q r k : Nat} {Tp Tq Tr Tk : TypeId} (dz : act.defers = []) (sz : act.tmps.size = 22)
    (t0 : act.tmps.getD 0 undef = ptr0 p) (t1 : act.tmps.getD 1 undef = ptr0 q) (t2 : act.tmps.getD 2 undef = ptr0 r) (t4 : act.tmps.getD 4 undef = ptr0 k)
    (hp : w.heap[p]? = some (.cells #[.slice none 0 0, .slice none 0 0, .int .i64 0, .int .i64 0] Tp (0, 0))) (hq : w.heap[q]? = some (.cells #[.int .i64 0] Tq (0, 0))) (hr : w.heap[r]? = some (.cells #[.int .i64 0] Tr (0, 0)))
    (hk : w.heap[k]? = some (.cells #[.int .i64 a, .int .i64 e] Tk (0, 0))) (ha : inI64 a) (he : inI64 e)
    (lp : p < w0.heap.size) (lq : q < w0.heap.size) (lr : r < w0.heap.size) (lk : w0.heap.size ≤ k) (hpq : p ≠ q) (hpr : p ≠ r) (hqr : q ≠ r)
    (hb : BelowX w0.heap.size (fun b => b = p ∨ b = q ∨ b = r) w0 w) (hg : GOk Tryz.prog w0 (fun b => b = p ∨ b = q ∨ b = r)) :
    (sub [1,1,0,1,1] (bodyOf Tryz.f93)).wp Tryz.prog (fun x a' w' => x = .normal ∧ a'.defers = [] ∧ Caught w0 w' p q r a e) act w := by
  have lt : ∀ {b : Nat} {o : Obj}, w.heap[b]? = some o → b < w.heap.size := fun h => (Array.getElem?_eq_some_iff.1 h).1
  let pl : Nat → Value := fun i => if i = 1000 then ptr0 p else if i = 1001 then ptr0 q else if i = 1002 then ptr0 r else ptr0 k
  let b0 : Base := ⟨w0, fun _ => False, fun b => b = p ∨ b = q ∨ b = r, pl⟩
  let Q : Ex → Option HObj → Option HObj → Option HObj → Prop := fun x m1 m2 m3 => x = .normal ∧ m1 = some (HObj.cells [D.sl .var ([] : List VarD), D.sl .con ([] : List ConD), dI 0, dI 0]) ∧ m2 = some (HObj.cells [dI a]) ∧ m3 = some (HObj.cells [dI e])
  have hden : den Tryz.prog Ev catchA (sub [1,1,0,1,1] (bodyOf Tryz.f93)) 0 ⟨[(0,.ptr 1000 0),(1,.ptr 1001 0),(2,.ptr 1002 0),(4,.ptr 3000 0)],[(1000,HObj.cells [D.sl .var ([] : List VarD), D.sl .con ([] : List ConD), dI 0, dI 0]),(1001,HObj.cells [dI 0]),(1002,HObj.cells [dI 0]),(3000, HObj.cells [dI a, dI e])]⟩ (fun x σ => Q x (look 1000 σ.hp) (look 1001 σ.hp) (look 1002 σ.hp)) := by
    rw [catch_den]
    have h : Q .normal (some (HObj.cells [D.sl .var ([] : List VarD), D.sl .con ([] : List ConD), dI 0, dI 0])) (some (HObj.cells [dI a])) (some (HObj.cells [dI e])) := ⟨rfl, rfl, rfl, rfl⟩
    exact ⟨⟨h, h, h⟩, ⟨h, h⟩, h, h⟩
  have hlook : ∀ j o, look j ([(1000,HObj.cells [D.sl .var ([] : List VarD), D.sl .con ([] : List ConD), dI 0, dI 0]),(1001,HObj.cells [dI 0]),(1002,HObj.cells [dI 0]),(3000, HObj.cells [dI a, dI e])] : List (Nat × HObj)) = some o →
      (j = 1000 ∧ o = HObj.cells [D.sl .var ([] : List VarD), D.sl .con ([] : List ConD), dI 0, dI 0]) ∨ (j = 1001 ∧ o = HObj.cells [dI 0]) ∨ (j = 1002 ∧ o = HObj.cells [dI 0]) ∨ (j = 3000 ∧ o = HObj.cells [dI a, dI e]) := fun j o h => by
    simp only [look_cons] at h
    split at h
    · injection h with h; exact .inl ⟨by omega, h.symm⟩
    split at h
    · injection h with h; exact .inr (.inl ⟨by omega, h.symm⟩)
    split at h
    · injection h with h; exact .inr (.inr (.inl ⟨by omega, h.symm⟩))
    split at h
    · injection h with h; exact .inr (.inr (.inr ⟨by omega, h.symm⟩))
    · cases h
  have hob : ∀ j o b, look j ([(1000,HObj.cells [D.sl .var ([] : List VarD), D.sl .con ([] : List ConD), dI 0, dI 0]),(1001,HObj.cells [dI 0]),(1002,HObj.cells [dI 0]),(3000, HObj.cells [dI a, dI e])] : List (Nat × HObj)) = some o → oblk (pl j) = some b →
      (j = 1000 ∧ b = p) ∨ (j = 1001 ∧ b = q) ∨ (j = 1002 ∧ b = r) ∨ (j = 3000 ∧ b = k) := fun j o b h h2 => by
    rcases hlook j o h with ⟨rfl, _⟩ | ⟨rfl, _⟩ | ⟨rfl, _⟩ | ⟨rfl, _⟩ <;> simp [pl, oblk] at h2 <;> simp [h2]
  have m : MtB Tryz.prog b0 22 ⟨[(0,.ptr 1000 0),(1,.ptr 1001 0),(2,.ptr 1002 0),(4,.ptr 3000 0)],[(1000,HObj.cells [D.sl .var ([] : List VarD), D.sl .con ([] : List ConD), dI 0, dI 0]),(1001,HObj.cells [dI 0]),(1002,HObj.cells [dI 0]),(3000, HObj.cells [dI a, dI e])]⟩ act w (fun _ => False) pl := by
    refine ⟨dz, sz, fun i => ?_, fun j o h => ?_, fun b h => h.elim, fun b h => h.elim, fun j o b h h2 => ?_, fun j j' o o' b h h' h1 h2 => ?_, hb, fun _ _ => rfl, hg⟩
    · show Rd w _ pl _ (D.or (look i [(0,D.ptr 1000 0),(1,.ptr 1001 0),(2,.ptr 1002 0),(4,.ptr 3000 0)]))
      simp only [look_cons]
      split
      · rename_i h; subst h; exact ⟨p, rfl, t0⟩
      split
      · rename_i h; subst h; exact ⟨q, rfl, t1⟩
      split
      · rename_i h; subst h; exact ⟨r, rfl, t2⟩
      split
      · rename_i h; subst h; exact ⟨k, rfl, t4⟩
      · exact rd_undef
    · rcases hlook j o h with ⟨rfl, rfl⟩ | ⟨rfl, rfl⟩ | ⟨rfl, rfl⟩ | ⟨rfl, rfl⟩
      · refine ⟨p, _, _, rfl, hp, rfl, fun i d hd => ?_, fun e => by cases e⟩
        match i, hd with
        | 0, hd => injection hd with hd; subst hd; exact Rp.rd (nil_sl .var)
        | 1, hd => injection hd with hd; subst hd; exact Rp.rd (nil_sl .con)
        | 2, hd => injection hd with hd; subst hd; exact Rp.rd (.int_mk (by unfold inI64; omega))
        | 3, hd => injection hd with hd; subst hd; exact Rp.rd (.int_mk (by unfold inI64; omega))
      · refine ⟨q, _, _, rfl, hq, rfl, fun i d hd => ?_, fun e => by cases e⟩
        match i, hd with
        | 0, hd => injection hd with hd; subst hd; exact Rp.rd (.int_mk (by unfold inI64; omega))
      · refine ⟨r, _, _, rfl, hr, rfl, fun i d hd => ?_, fun e => by cases e⟩
        match i, hd with
        | 0, hd => injection hd with hd; subst hd; exact Rp.rd (.int_mk (by unfold inI64; omega))
      · refine ⟨k, _, _, rfl, hk, rfl, fun i d hd => ?_, fun e => by cases e⟩
        match i, hd with
        | 0, hd => injection hd with hd; subst hd; exact Rp.rd (.int_mk ha)
        | 1, hd => injection hd with hd; subst hd; exact Rp.rd (.int_mk he)
    · rcases hob j o b h h2 with ⟨_, rfl⟩ | ⟨_, rfl⟩ | ⟨_, rfl⟩ | ⟨_, rfl⟩
      · exact ⟨.inl (.inl rfl), lt hp, id⟩
      · exact ⟨.inl (.inr (.inl rfl)), lt hq, id⟩
      · exact ⟨.inl (.inr (.inr rfl)), lt hr, id⟩
      · exact ⟨.inr lk, lt hk, id⟩
    · rcases hob j o b h h1 with ⟨rfl, e1⟩ | ⟨rfl, e1⟩ | ⟨rfl, e1⟩ | ⟨rfl, e1⟩ <;> rcases hob j' o' b h' h2 with ⟨rfl, e2⟩ | ⟨rfl, e2⟩ | ⟨rfl, e2⟩ | ⟨rfl, e2⟩ <;> first | rfl | (exfalso; subst e1; omega)
  refine wp_mono (den_wp factsEv (A := catchA) (b0 := b0) _ 0 _ _ act w hden ⟨_, _, m⟩) fun x a' w' h => ?_
  rcases h with ⟨x', σ, hx, ⟨rfl, h1, h2, h3⟩, S', pl', m'⟩ | ⟨u, σ, _, ⟨h, _⟩, _⟩
  · have hx : x = .normal := by cases x <;> simp [exOf] at hx ⊢
    refine ⟨hx, m'.dz, m'.below, ?_, ?_, ?_⟩
    · obtain ⟨b, vs, T, e1, e2, e3, e4, _⟩ := m'.hp _ _ h1
      have : pl' 1000 = ptr0 p := m'.stay 1000 rfl
      rw [this] at e1; injection e1 with e1; injection e1 with e1; injection e1 with e1; subst e1
      refine ⟨vs, T, e2, e3, fun i d hd => ?_⟩
      have := e4 i d hd
      have hf : d.ref = none := by
        match i, hd with
        | 0, hd => injection hd with hd; subst hd; rfl
        | 1, hd => injection hd with hd; subst hd; rfl
        | 2, hd => injection hd with hd; subst hd; rfl
        | 3, hd => injection hd with hd; subst hd; rfl
      refine (this.flat hf).mono (fun _ _ => rfl) fun b hS => ⟨?_, m'.lt b hS⟩
      rcases m'.src b hS with h | h | h
      · exact h.elim
      · exfalso
        have : ∃ j o, look j σ.hp = some o ∧ oblk (pl' j) = some b := by
          rcases h with rfl | rfl | rfl
          · exact ⟨1000, _, h1, by rw [m'.stay 1000 rfl]; rfl⟩
          · exact ⟨1001, _, h2, by rw [m'.stay 1001 rfl]; rfl⟩
          · exact ⟨1002, _, h3, by rw [m'.stay 1002 rfl]; rfl⟩
        obtain ⟨j, o, q1, q2⟩ := this
        exact (m'.priv j o b q1 q2).2.2 hS
      · exact h
    · obtain ⟨b, vs, T, e1, e2, e3, e4, _⟩ := m'.hp _ _ h2
      have : pl' 1001 = ptr0 q := m'.stay 1001 rfl
      rw [this] at e1; injection e1 with e1; injection e1 with e1; injection e1 with e1; subst e1
      have h0 := ((e4 0 _ rfl).flat (d := dI a) rfl).int_inv.1
      refine ⟨T, ?_⟩
      rw [e2]
      congr 2
      have e3 : vs.size = 1 := e3
      apply Array.ext
      · simpa using e3
      · intro i i1 i2
        have : i = 0 := by omega
        subst this
        rw [Array.getD_eq_getD_getElem?, Array.getElem?_eq_getElem i1] at h0
        simpa using h0
    · obtain ⟨b, vs, T, e1, e2, e3, e4, _⟩ := m'.hp _ _ h3
      have : pl' 1002 = ptr0 r := m'.stay 1002 rfl
      rw [this] at e1; injection e1 with e1; injection e1 with e1; injection e1 with e1; subst e1
      have h0 := ((e4 0 _ rfl).flat (d := dI e) rfl).int_inv.1
      refine ⟨T, ?_⟩
      rw [e2]
      congr 2
      have e3 : vs.size = 1 := e3
      apply Array.ext
      · simpa using e3
      · intro i i1 i2
        have : i = 0 := by omega
        subst this
        rw [Array.getD_eq_getD_getElem?, Array.getElem?_eq_getElem i1] at h0
        simpa using h0
  · cases h
set_option maxRecDepth 100000 in
theorem text_catch_idle (p q r : Nat) (w : World) : CallsD Tryz.prog 93 #[ptr0 p, ptr0 q, ptr0 r] .returning w fun en u' w' => en = .returned (.tuple #[]) ∧ u' = .returning ∧ w' = w := by
  refine callsD_of_wpS Tryz.func93 rfl fun c₀ cs hu => ?_
  apply wpS_seq
  apply wpS_region
  simp [wpOpsS, go_sem, recoverD, hu, Tryz.ntmps93, Exit.thenS]
  apply wpS_seq
  apply wpS_region
  simp [wpOpsS, go_sem, Exit.thenS]
  refine wpS_cond (t := false) (by simp [Act.eval, Array.replicate]) ?_
  simp only [Bool.false_eq_true, if_false]
  refine wpS_of_wp (wp_skip ?_)
  cases c₀
  simp_all [bodyPostS, results, Tryz.results93, Exit.thenS]
set_option maxRecDepth 100000 in
theorem text_catch_pan {a e : Int} (ha : inI64 a) (he : inI64 e) (p q r : Nat) (w : World) {Tp Tq Tr : TypeId}
    (hp : w.heap[p]? = some (.cells #[.slice none 0 0, .slice none 0 0, .int .i64 0, .int .i64 0] Tp (0, 0))) (hq : w.heap[q]? = some (.cells #[.int .i64 0] Tq (0, 0))) (hr : w.heap[r]? = some (.cells #[.int .i64 0] Tr (0, 0)))
    (hpq : p ≠ q) (hpr : p ≠ r) (hqr : q ≠ r) (hg : GOk Tryz.prog w (fun b => b = p ∨ b = q ∨ b = r)) :
    CallsD Tryz.prog 93 #[ptr0 p, ptr0 q, ptr0 r] (.panicking [{ v := flt' a e, recovered := false }]) w fun en u' w' => en = .returned (.tuple #[]) ∧ u' = .panicking [{ v := flt' a e, recovered := true }] ∧ Caught w w' p q r a e := by
  refine callsD_of_wpS Tryz.func93 rfl fun c₀ cs hu => ?_
  have hta : ∀ w : World, (Instr.typeAssert (.iface 158 (.agg #[.int .i64 a, .int .i64 e])) 20 158 true).run Tryz.prog w = .ok (.tuple #[.agg #[.int .i64 a, .int .i64 e], .bool true]) w := fun _ => by kernel_rfl
  simp only [Tryz.ntmps93, List.size_toArray, List.length_cons, List.length_nil, Nat.reduceAdd, Nat.reduceSub, Array.replicate_succ, Array.replicate_zero, List.push_toArray, List.append_toArray, List.nil_append, List.cons_append]
  apply wpS_seq
  apply wpS_region
  simp [wpOpsS, go_sem, recoverD, hu, Exit.thenS]
  apply wpS_seq
  apply wpS_region
  simp [wpOpsS, go_sem, Exit.thenS]
  refine wpS_cond (t := true) (by simp [Act.eval]) ?_
  simp only [if_true]
  refine wpS_of_wp ?_
  refine wp_seq ?_
  refine wp_mono (Q := fun x a' w' => x = .normal ∧ a' = ⟨#[ptr0 p, ptr0 q, ptr0 r, flt' a e, ptr0 w.heap.size, .bool true, flt' a e, flt' a e, .bool true, (.tuple #[.agg #[.int .i64 a, .int .i64 e], .bool true]), flt' a e, (.tuple #[.agg #[.int .i64 a, .int .i64 e], .bool true]), (.agg #[.int .i64 a, .int .i64 e]), .bool true, undef, undef, undef, undef, undef, undef, undef, undef], []⟩ ∧ w' = w.alloc (.cells #[.int .i64 a, .int .i64 e] 158)) ?_ ?_
  · go_wp2_with fail
  rintro x a' w' ⟨rfl, rfl, rfl⟩
  refine wp_seq ?_
  refine wp_mono (Q := fun x a1 w1 => x = .normal ∧ a1 = ⟨#[ptr0 p, ptr0 q, ptr0 r, flt' a e, ptr0 w.heap.size, .bool true, flt' a e, flt' a e, .bool true, (.tuple #[.agg #[.int .i64 a, .int .i64 e], .bool true]), flt' a e, (.tuple #[.agg #[.int .i64 a, .int .i64 e], .bool true]), (.agg #[.int .i64 a, .int .i64 e]), .bool true, .bool true, .bool false, undef, undef, undef, undef, undef, undef], []⟩ ∧ w1 = w.alloc (.cells #[.int .i64 a, .int .i64 e] 158)) ?_ ?_
  · go_wp2_with fail
  rintro x a1 w1 ⟨rfl, rfl, rfl⟩
  have hb : Below w.heap.size w (w.alloc (.cells #[.int .i64 a, .int .i64 e] 158)) := by (repeat' (first | (with_reducible exact Below.refl _ _) | (with_reducible assumption) | (with_reducible refine below_drewN ?_ _) | (with_reducible refine Below.alloc ?_ ?_ _) | (with_reducible refine Below.setCell ?_ ?_ _) | (with_reducible refine Below.drew ?_) | go_size))
  have hk : (w.alloc (.cells #[.int .i64 a, .int .i64 e] 158)).heap[w.heap.size]? = some (.cells #[.int .i64 a, .int .i64 e] 158 (0, 0)) := by unfold World.alloc; simp
  have lt : ∀ {b : Nat} {o : Obj}, w.heap[b]? = some o → b < w.heap.size := fun h => (Array.getElem?_eq_some_iff.1 h).1
  refine wp_mono (catch_tail rfl rfl rfl rfl rfl rfl ((hb.block _ (lt hp)).trans hp) ((hb.block _ (lt hq)).trans hq) ((hb.block _ (lt hr)).trans hr) hk ha he (lt hp) (lt hq) (lt hr) (Nat.le_refl _) hpq hpr hqr (.of hb) hg) ?_
  rintro x a2 w2 ⟨rfl, dz, hc⟩
  refine ⟨dz, _, rfl, .tuple #[], ?_, rfl, rfl, hc⟩
  simp [results, Tryz.results93]
end Go.Proofs.YtogdmcebojiojaaGreatDoor

/- The reader of the document: its small calls, with an error kept. -/
namespace Go.Proofs.YtogdmcebojiojaaGreatDoor
open Go.RowKit
set_option linter.unusedVariables false
set_option linter.unusedSimpArgs false

abbrev hpR (l : List Tok) (en goal mvar : Int) (pv : List VarD) (pc : List ConD) (j : Nat) (er : Int) : List (Nat × HObj) :=
  [(1000, .cells [.sl .tok l, dI j, dI en, dI er, .own 2000, .own 2001, dI goal, dI mvar]), (2000, .row 72 .var pv), (2001, .row 74 .con pc)]
/-- Where one stands behind a reading, and what is wrong then. -/
def Pr.st {α : Type} : Pr α → Nat × Int
  | .ok _ j => (j, 0)
  | .err j e => (j, e)
def stR {α : Type} (r : Pr α) (j : Nat) (er : Int) : Nat × Int := if er = 0 then r.st else (j, er)
def rText (l : List Tok) (j : Nat) (er : Int) : ByteArray := if er = 0 ∧ j < l.length then (tokA l j).text else ⟨#[]⟩
theorem rText_take {l : List Tok} {s : ByteArray} (hs : s ≠ ⟨#[]⟩) {j : Nat} : (rText l j 0 = s) ↔ takeB l s j = true := by
  unfold rText takeB
  by_cases h : j < l.length
  · rw [if_pos ⟨rfl, h⟩, decide_eq_true h, Bool.true_and, decide_eq_true_eq]
  · rw [if_neg fun x => h x.2, decide_eq_false h, Bool.false_and]
    exact ⟨fun e => absurd e.symm hs, fun e => by cases e⟩
section
variable {l : List Tok} {en goal mvar : Int} {pv : List VarD} {pc : List ConD}
theorem rtoks_le {j : Nat} {er : Int} (h : ∀ k o, look k (hpR l en goal mvar pv pc j er) = some o → okO o) : l.length * 32 ≤ 140737488355328 := by
  have := h 1000 _ rfl (.sl .tok l) (by simp)
  exact this.1
theorem read_here_ok (j : Nat) (er : Int) : SatH Tryz.prog f_cordonref_Reader_Here [.ptr 1000 0] (hpR l en goal mvar pv pc j er) (dI (hereP l en j)) (hpR l en goal mvar pv pc j er) :=
  cordonref_Reader_Here_sat _ _ _ _ _ _ _ _ fun ok ok2 => by
    rw [cordonref_Reader_Here_eq, hereP, tok_at]
    by_cases h : j < l.length
    · rw [if_pos h]
      exact dt (by omega) ⟨inb_nat h, rfl, rfl⟩
    · rw [if_neg h]
      exact df (by omega) ⟨rfl, rfl⟩
theorem read_text_ok (j : Nat) (er : Int) : SatH Tryz.prog f_cordonref_Reader_Text [.ptr 1000 0] (hpR l en goal mvar pv pc j er) (.str (rText l j er)) (hpR l en goal mvar pv pc j er) :=
  cordonref_Reader_Text_sat _ _ _ _ _ _ _ _ fun ok ok2 => by
    rw [cordonref_Reader_Text_eq, rText, tok_at]
    by_cases e : er = 0
    · refine dnf e ?_
      by_cases h : j < l.length
      · rw [if_pos ⟨e, h⟩]
        exact df (by omega) ⟨inb_nat h, rfl, rfl⟩
      · rw [if_neg fun x => h x.2]
        exact dt (by omega) ⟨rfl, rfl⟩
    · rw [if_neg fun x => e x.1]
      exact dnt e ⟨rfl, rfl⟩
theorem read_wrong_ok (j : Nat) (er e : Int) : SatH Tryz.prog f_cordonref_Reader_Wrong [.ptr 1000 0, dI e] (hpR l en goal mvar pv pc j er) (.tup []) (hpR l en goal mvar pv pc j (if er = 0 then e else er)) :=
  cordonref_Reader_Wrong_sat _ _ _ _ _ _ _ _ _ fun ok ok2 => by
    rw [cordonref_Reader_Wrong_eq]
    by_cases h : er = 0
    · rw [if_pos h]; exact dt h ⟨rfl, rfl⟩
    · rw [if_neg h]; exact df h ⟨rfl, rfl⟩
theorem read_need_ok {s : ByteArray} (hs : s ≠ ⟨#[]⟩) (j : Nat) (er : Int) : SatH Tryz.prog f_cordonref_Reader_Need [.ptr 1000 0, .str s] (hpR l en goal mvar pv pc j er) (.tup []) (hpR l en goal mvar pv pc (stR (needP l [s] j) j er).1 (stR (needP l [s] j) j er).2) :=
  cordonref_Reader_Need_sat _ _ _ _ _ _ _ _ _ fun ok ok2 => by
    have hl := rtoks_le ok2
    rw [cordonref_Reader_Need_eq, stR, needP, needP]
    by_cases h : er = 0
    · subst h
      refine dt rfl ⟨_, read_text_ok j 0, ?_⟩
      rw [if_pos rfl]
      cases hb : takeB l s j with
      | true =>
        have hlt := takeB_lt hb
        refine dt ((rText_take hs).2 hb) ?_
        rw [if_pos rfl, w64_up (by omega)]
        exact ⟨rfl, rfl⟩
      | false =>
        refine df (fun e => by rw [(rText_take hs).1 e] at hb; cases hb) ⟨_, read_wrong_ok j 0 1, ?_⟩
        exact ⟨rfl, rfl⟩
    · refine df h ⟨_, read_wrong_ok j er 1, ?_⟩
      rw [if_neg h, if_neg h]
      exact ⟨rfl, rfl⟩
end
end Go.Proofs.YtogdmcebojiojaaGreatDoor

/- The reader of the document: words and variables. -/
namespace Go.Proofs.YtogdmcebojiojaaGreatDoor
open Go.RowKit
set_option linter.unusedVariables false
set_option linter.unusedSimpArgs false

/-- The first one of a name. -/
def ixName (s : ByteArray) : List VarD → Int → Option Int
  | [], _ => none
  | v :: r, i => if v.name = s then some i else ixName s r (i + 1)
section
variable {l : List Tok} {en goal mvar : Int} {pv : List VarD} {pc : List ConD} {names : List (ByteArray × Int)}
/-- A reader's call: with nothing wrong it does what the grammar says; else nothing. -/
def SatR {α : Type} (l : List Tok) (en goal mvar : Int) (pv : List VarD) (pc : List ConD) (f : FuncId) (args : List D) (d : α → D) (r : Pr α) (j : Nat) (er : Int) : Prop :=
  ∃ x, SatH Tryz.prog f args (hpR l en goal mvar pv pc j er) (d x) (hpR l en goal mvar pv pc (stR r j er).1 (stR r j er).2) ∧ (er = 0 → ∀ y k, r = .ok y k → x = y)
def wordR (l : List Tok) (ss : List ByteArray) (j : Nat) : Pr Int := match wordP l ss 0 j with
  | some o => .ok o (j + 1)
  | none => .err j 1
theorem wordP_bd {j : Nat} {ss : List ByteArray} : ∀ {i : Int} {o : Int}, wordP l ss i j = some o → i ≤ o ∧ o < i + ss.length := by
  induction ss with
  | nil => intro i o h; cases h
  | cons s r ih =>
    intro i o h
    unfold wordP at h
    rw [List.length_cons]
    split at h
    · injection h with h; omega
    · have := ih h; omega
theorem read_word_b {ss : List ByteArray} (hne : ∀ s ∈ ss, s ≠ ⟨#[]⟩) (hn0 : 0 < ss.length) (j : Nat) (er : Int) : ∃ x : Int, SatH Tryz.prog f_cordonref_Reader_Word [.ptr 1000 0, .sl .str ss] (hpR l en goal mvar pv pc j er) (dI x) (hpR l en goal mvar pv pc (stR (wordR l ss j) j er).1 (stR (wordR l ss j) j er).2) ∧
    (er = 0 → ∀ y k, wordR l ss j = .ok y k → x = y) ∧ 0 ≤ x ∧ x < ss.length := by
  refine ⟨(match wordP l ss 0 j with | some o => if er = 0 then o else 0 | none => 0), cordonref_Reader_Word_sat _ _ _ _ _ _ _ _ _ fun ok ok2 => ?_, fun he y k hy => ?_, ?_⟩
  · have hl := rtoks_le ok2
    have hsl : ss.length ≤ 9223372036854775807 := okLen (t := .str) (ok _ (by simp))
    rw [cordonref_Reader_Word_eq]
    refine up0 (I := fun n v => cordonref_Reader_Word_I0 ss _ n v l (j : Int) en er goal mvar pv pc) 0 ss.length rfl (Nat.zero_le _) hsl (fun k => er = 0 → wordP l (ss.drop k) k j = wordP l ss 0 j) (fun _ => rfl) fun n k _ hk ha hn => ?_
    rw [cordonref_Reader_Word_I0_eq]
    by_cases h : k < ss.length
    · rw [sel_lt h, at_nat (t := .str) h]
      by_cases he : er = 0
      · subst he
        have ha := ha rfl
        rw [List.drop_eq_getElem_cons h, wordP] at ha
        refine dt rfl ⟨inb_nat h, _, read_text_ok j 0, ?_⟩
        have hs := hne _ (List.getElem_mem h)
        cases hb : takeB l ss[k] j with
        | true =>
          rw [hb, if_pos rfl] at ha
          have hlt := takeB_lt hb
          refine dt ((rText_take hs).2 hb) ?_
          rw [w64_up (by omega), wordR, ← ha]
          exact ⟨rfl, rfl⟩
        | false =>
          rw [hb, if_neg (by decide)] at ha
          refine df (fun e => by rw [(rText_take hs).1 e] at hb; cases hb) (hn h fun _ => ?_)
          rw [← ha]; rfl
      · exact df he (hn h fun e => absurd e he)
    · have hk' : k = ss.length := by omega
      subst hk'
      rw [sel_end]
      refine ⟨_, read_wrong_ok j er 1, ?_⟩
      by_cases he : er = 0
      · subst he
        have ha := ha rfl
        rw [List.drop_of_length_le (Nat.le_refl _), wordP] at ha
        rw [wordR, ← ha]
        exact ⟨rfl, rfl⟩
      · rw [if_neg he, stR, if_neg he]
        refine ⟨?_, rfl⟩
        cases wordP l ss 0 j with
        | none => rfl
        | some o => simp only [if_neg he]
  · rw [wordR] at hy
    subst he
    cases hw : wordP l ss 0 j with
    | some o => rw [hw] at hy; injection hy with h1 h2
    | none => rw [hw] at hy; cases hy
  · cases hw : wordP l ss 0 j with
    | some o =>
      have := wordP_bd hw
      simp only
      split <;> omega
    | none => simp only; omega
theorem isName_empty : isNameS ⟨#[]⟩ = false := by kernel_rfl
theorem read_v_ok (hN : ∀ s, mget .str .int s names = ixName s pv 0) (j : Nat) (er : Int) : SatR l en goal mvar pv pc f_cordonref_Reader_V [.ptr 1000 0] (fun n : Int => dI n) (vP isNameS names l j) j er := by
  refine ⟨(if er = 0 ∧ j < l.length ∧ isNameS (tokA l j).text = true then (ixName (tokA l j).text pv 0).getD 0 else 0), cordonref_Reader_V_sat _ _ _ _ _ _ _ _ fun ok ok2 => ?_, fun he y k hy => ?_⟩
  · have hl := rtoks_le ok2
    have hpv : pv.length ≤ 9223372036854775807 := by
      have := ok2 2000 _ rfl
      exact okLen (t := .var) this
    rw [cordonref_Reader_V_eq]
    refine ⟨_, read_text_ok j er, call1 (t := .bool) (cordonref_IsName_ok _) ?_⟩
    by_cases hc : er = 0 ∧ j < l.length ∧ isNameS (tokA l j).text = true
    · obtain ⟨rfl, h1, h2⟩ := hc
      have ht : rText l j 0 = (tokA l j).text := if_pos ⟨rfl, h1⟩
      rw [ht, if_pos ⟨rfl, h1, h2⟩, stR, if_pos rfl, vP, nameP, if_pos ⟨h1, h2⟩]
      simp only [Pr.bind]
      rw [hN]
      refine bnf h2 ?_
      generalize (tokA l j).text = s
      refine up0 (I := fun n v => cordonref_Reader_V_I0 _ s n v l (j : Int) en 0 goal mvar pv pc) 0 pv.length rfl (Nat.zero_le _) hpv (fun k => ixName s (pv.drop k) k = ixName s pv 0) rfl fun n k _ hk ha hn => ?_
      rw [cordonref_Reader_V_I0_eq]
      by_cases h : k < pv.length
      · rw [sel_lt h, at_nat (t := .var) h]
        rw [List.drop_eq_getElem_cons h, ixName] at ha
        refine ⟨inb_nat h, ?_⟩
        by_cases e : pv[k].name = s
        · rw [if_pos e] at ha
          refine dt e ?_
          rw [w64_up (by omega), ← ha]
          exact ⟨rfl, rfl⟩
        · rw [if_neg e] at ha
          exact df e (hn h (by rw [← ha]; rfl))
      · have hk' : k = pv.length := by omega
        subst hk'
        rw [sel_end]
        rw [List.drop_of_length_le (Nat.le_refl _), ixName] at ha
        refine ⟨_, read_wrong_ok j 0 5, ?_⟩
        rw [← ha]
        exact ⟨rfl, rfl⟩
    · rw [if_neg hc]
      have hf : isNameS (rText l j er) = false := by
        unfold rText
        split
        · rename_i x
          cases hb : isNameS (tokA l j).text with
          | false => rfl
          | true => exact absurd ⟨x.1, x.2, hb⟩ hc
        · exact isName_empty
      refine bnt hf ⟨_, read_wrong_ok j er 1, ?_⟩
      rw [stR]
      by_cases he : er = 0
      · rw [if_pos he, if_pos he, vP, nameP, if_neg fun x => hc ⟨he, x⟩]
        exact ⟨rfl, rfl⟩
      · rw [if_neg he, if_neg he]
        exact ⟨rfl, rfl⟩
  · subst he
    rw [vP, nameP] at hy
    by_cases hc : j < l.length ∧ isNameS (tokA l j).text = true
    · rw [if_pos hc] at hy
      simp only [Pr.bind] at hy
      rw [hN] at hy
      rw [if_pos ⟨rfl, hc⟩]
      cases hx : ixName (tokA l j).text pv 0 with
      | some n => rw [hx] at hy; injection hy with h1 h2
      | none => rw [hx] at hy; cases hy
    · rw [if_neg hc] at hy; cases hy
end
end Go.Proofs.YtogdmcebojiojaaGreatDoor

/- The reader of the document: is there more of a list? -/
namespace Go.Proofs.YtogdmcebojiojaaGreatDoor
open Go.RowKit
set_option linter.unusedVariables false
set_option linter.unusedSimpArgs false

def more1 (l : List Tok) (j : Nat) (er : Int) : Bool × (Nat × Int) := if er = 0 then (if takeB l ⟨#[91]⟩ j = true then (if takeB l ⟨#[93]⟩ (j + 1) = true then (false, j + 2, 0) else (true, j + 1, 0)) else (false, j, 1)) else (false, j, er)
def more2 (l : List Tok) (j : Nat) (er : Int) : Bool × (Nat × Int) := if er = 0 then (if takeB l ⟨#[44]⟩ j = true then (true, j + 1, 0) else if takeB l ⟨#[93]⟩ j = true then (false, j + 1, 0) else (false, j, 1)) else (false, j, er)
section
variable {l : List Tok} {en goal mvar : Int} {pv : List VarD} {pc : List ConD}
theorem rText_bad {j : Nat} {er : Int} (h : er ≠ 0) : rText l j er = ⟨#[]⟩ := if_neg fun x => h x.1
theorem need_st {s : ByteArray} {j : Nat} {er : Int} : stR (needP l [s] j) j er = if er = 0 then (if takeB l s j = true then (j + 1, 0) else (j, 1)) else (j, er) := by
  unfold stR
  by_cases h : er = 0
  · rw [if_pos h, if_pos h, needP, needP]
    split <;> rfl
  · rw [if_neg h, if_neg h]
theorem read_more1_ok (j : Nat) (er : Int) : SatH Tryz.prog f_cordonref_Reader_More [.ptr 1000 0, dB true] (hpR l en goal mvar pv pc j er) (dB (more1 l j er).1) (hpR l en goal mvar pv pc (more1 l j er).2.1 (more1 l j er).2.2) :=
  cordonref_Reader_More_sat _ _ _ _ _ _ _ _ _ fun ok ok2 => by
    rw [cordonref_Reader_More_eq]
    refine bt rfl ⟨_, _, read_need_ok (s := ⟨#[91]⟩) (by decide) j er, ?_⟩
    rw [need_st, more1]
    by_cases h : er = 0
    · rw [if_pos h, if_pos h]
      cases h1 : takeB l ⟨#[91]⟩ j with
      | true =>
        rw [if_pos rfl, if_pos rfl]
        refine ⟨_, read_text_ok (j + 1) 0, ?_⟩
        cases h2 : takeB l ⟨#[93]⟩ (j + 1) with
        | true =>
          rw [if_pos rfl]
          refine dt ((rText_take (by decide)).2 h2) ⟨_, _, read_need_ok (s := ⟨#[93]⟩) (by decide) (j + 1) 0, ?_⟩
          rw [need_st, if_pos rfl, if_pos h2]
          exact ⟨rfl, rfl⟩
        | false =>
          rw [if_neg (by decide)]
          exact df (fun e => by rw [(rText_take (by decide)).1 e] at h2; cases h2) ⟨rfl, rfl⟩
      | false =>
        rw [if_neg (by decide), if_neg (by decide)]
        refine ⟨_, read_text_ok j 1, ?_⟩
        rw [rText_bad (by decide)]
        exact df (by decide) ⟨rfl, rfl⟩
    · rw [if_neg h, if_neg h]
      refine ⟨_, read_text_ok j er, ?_⟩
      rw [rText_bad h]
      refine df (by decide) ?_
      show D.bool (decide (er = 0)) = _ ∧ _
      rw [decide_eq_false h]
      exact ⟨rfl, rfl⟩
theorem read_more2_ok (j : Nat) (er : Int) : SatH Tryz.prog f_cordonref_Reader_More [.ptr 1000 0, dB false] (hpR l en goal mvar pv pc j er) (dB (more2 l j er).1) (hpR l en goal mvar pv pc (more2 l j er).2.1 (more2 l j er).2.2) :=
  cordonref_Reader_More_sat _ _ _ _ _ _ _ _ _ fun ok ok2 => by
    rw [cordonref_Reader_More_eq]
    refine bf rfl ⟨_, read_text_ok j er, ?_⟩
    rw [more2]
    by_cases h : er = 0
    · subst h
      rw [if_pos rfl]
      cases h1 : takeB l ⟨#[44]⟩ j with
      | true =>
        rw [if_pos rfl]
        refine dt ((rText_take (by decide)).2 h1) ⟨_, _, read_need_ok (s := ⟨#[44]⟩) (by decide) j 0, ?_⟩
        rw [need_st, if_pos rfl, if_pos h1]
        exact ⟨rfl, rfl⟩
      | false =>
        rw [if_neg (by decide)]
        refine df (fun e => by rw [(rText_take (by decide)).1 e] at h1; cases h1) ⟨_, _, read_need_ok (s := ⟨#[93]⟩) (by decide) j 0, ?_⟩
        rw [need_st, if_pos rfl]
        cases h2 : takeB l ⟨#[93]⟩ j with
        | true => rw [if_pos rfl, if_pos rfl]; exact ⟨rfl, rfl⟩
        | false => rw [if_neg (by decide), if_neg (by decide)]; exact ⟨rfl, rfl⟩
    · rw [if_neg h, rText_bad h]
      refine df (by decide) ⟨_, _, read_need_ok (s := ⟨#[93]⟩) (by decide) j er, ?_⟩
      rw [need_st, if_neg h]
      exact ⟨rfl, rfl⟩
end
end Go.Proofs.YtogdmcebojiojaaGreatDoor

/- The reader's lists: printed by gen_pread4.py. -/
namespace Go.Proofs.YtogdmcebojiojaaGreatDoor
open Go.RowKit
set_option linter.unusedVariables false
set_option linter.unusedSimpArgs false

/-- What goes wrong has a number. -/
def ErrN {α : Type} (f : Nat → Pr α) : Prop := ∀ i j e, f i = .err j e → e ≠ 0
theorem errN_v {isN : ByteArray → Bool} {names : List (ByteArray × Int)} {l : List Tok} : ErrN (vP isN names l) := fun i j e h => by
  unfold vP nameP at h
  split at h
  · simp only [Pr.bind] at h
    split at h
    · cases h
    · injection h with h1 h2; subst h2; decide
  · injection h with h1 h2; subst h2; decide
theorem listP_more1 {α : Type} {l : List Tok} {f : Nat → Pr α} {j : Nat} : listP l f j = if takeB l ⟨#[91]⟩ j = true then (if takeB l ⟨#[93]⟩ (j + 1) = true then .ok [] (j + 2) else (f (j + 1)).bind fun x j => listR l f (l.length + 1) [x] j) else .err j 1 := by
  rw [listP, needP, needP]
  by_cases h : takeB l ⟨#[91]⟩ j = true
  · rw [if_pos h, if_pos h]; rfl
  · rw [if_neg h, if_neg h]; rfl
/-- The list that the reader makes, whatever comes: fv: what each call answers. -/
def listV {α : Type} (l : List Tok) (f : Nat → Pr α) (fv : Nat → α) : Nat → List α → Nat → List α
  | 0, out, j => out
  | n + 1, out, j => match f j with
    | .ok _ j1 => if takeB l ⟨#[44]⟩ j1 = true then listV l f fv n (out ++ [fv j]) (j1 + 1) else out ++ [fv j]
    | .err _ _ => out ++ [fv j]
theorem listV_ok {α : Type} {l : List Tok} {f : Nat → Pr α} {fv : Nat → α} (hf : ∀ i y k, f i = .ok y k → fv i = y) : ∀ (fuel : Nat) (out : List α) (j : Nat) (ys : List α) (k : Nat), ((f j).bind fun x j => listR l f fuel (out ++ [x]) j) = .ok ys k → listV l f fv fuel out j = ys
  | 0, out, j, ys, k, h => by
    cases hv : f j with
    | ok x i => rw [hv] at h; cases h
    | err i e => rw [hv] at h; cases h
  | fuel + 1, out, j, ys, k, h => by
    cases hv : f j with
    | err i e => rw [hv] at h; cases h
    | ok x i =>
      rw [hv] at h
      have h : listR l f (fuel + 1) (out ++ [x]) i = .ok ys k := h
      rw [listR] at h
      rw [listV, hv]
      simp only
      rw [hf _ _ _ hv]
      split at h
      · rename_i hb
        rw [if_pos hb]
        exact listV_ok hf fuel _ _ _ _ h
      · rename_i hb
        rw [if_neg hb]
        rw [needP, needP] at h
        split at h
        · injection h
        · cases h
theorem listR_st {α : Type} {l : List Tok} {f : Nat → Pr α} : ∀ (fuel : Nat) (a b : List α) (j : Nat), (listR l f fuel a j).st = (listR l f fuel b j).st
  | 0, a, b, j => rfl
  | fuel + 1, a, b, j => by
    rw [listR, listR]
    split
    · cases f (j + 1) with
      | ok x i => exact listR_st fuel _ _ i
      | err i e => rfl
    · rw [needP, needP]
      split <;> rfl
theorem list_st {α : Type} {l : List Tok} {f : Nat → Pr α} {fuel i : Nat} (a b : List α) : ((f i).bind fun x j => listR l f fuel (a ++ [x]) j).st = ((f i).bind fun x j => listR l f fuel (b ++ [x]) j).st := by
  cases f i with
  | ok x k => exact listR_st fuel _ _ k
  | err k e => rfl
theorem listV_len {α : Type} {l : List Tok} {f : Nat → Pr α} {fv : Nat → α} : ∀ (fuel : Nat) (out : List α) (j : Nat), (listV l f fv fuel out j).length ≤ out.length + fuel + 1
  | 0, out, j => by rw [listV]; omega
  | n + 1, out, j => by
    rw [listV]
    split
    · split
      · have := listV_len (l := l) (f := f) (fv := fv) n (out ++ [fv j])
        rename_i j1 _ _
        have := this (j1 + 1)
        rw [List.length_append] at this
        simp only [List.length_cons, List.length_nil] at this
        omega
      · rw [List.length_append]; simp only [List.length_cons, List.length_nil]; omega
    · rw [List.length_append]; simp only [List.length_cons, List.length_nil]; omega
abbrev hpSr (l : List Tok) (en goal mvar : Int) (pv : List VarD) (pc : List ConD) (j : Int) (er : Int) : List (Nat × HObj) :=
  [(1000, .cells [.sl .tok l, dI j, dI en, dI er, .own 2000, .own 2001, dI goal, dI mvar]), (2000, .row 72 .var pv), (2001, .row 74 .con pc)]
section
variable {l : List Tok} {en goal mvar : Int} {pv : List VarD} {pc : List ConD} {names : List (ByteArray × Int)}
theorem read_vs_run {fv : Nat → Int} (hfv : ∀ i, SatH Tryz.prog f_cordonref_Reader_V [.ptr 1000 0] (hpR l en goal mvar pv pc i 0) (dI (fv i)) (hpR l en goal mvar pv pc (vP isNameS names l i).st.1 (vP isNameS names l i).st.2)) (hl : l.length * 32 ≤ 140737488355328) {R : D → List (Nat × HObj) → Prop} : ∀ (fuel : Nat) (out : List Int) (j : Nat), j ≤ l.length → l.length < j + fuel → out.length ≤ j → 
    R (.sl .int (listV l (vP isNameS names l) fv fuel out j)) (hpR l en goal mvar pv pc ((vP isNameS names l j).bind fun x j => listR l (vP isNameS names l) fuel (out ++ [x]) j).st.1 ((vP isNameS names l j).bind fun x j => listR l (vP isNameS names l) fuel (out ++ [x]) j).st.2) →
    ∃ n, cordonref_Reader_Vs_I0 R n true out l (j : Int) en 0 goal mvar pv pc
  | 0, out, j, h1, h2, _, _ => by omega
  | fuel + 1, out, j, h1, h2, h3, hR => by
    have hs := hfv j
    have hroom : room .int (out.length + [fv j].length) = true := room_of (t := .int) (by show (out.length + 1) * 8 ≤ _; omega)
    cases hf : vP isNameS names l j with
    | err j1 e =>
      rw [hf] at hs hR
      rw [listV, hf] at hR
      have he := errN_v _ _ _ hf
      refine ⟨2, ?_⟩
      rw [cordonref_Reader_Vs_I0_eq]
      refine bt rfl ⟨_, _, _, hs, hroom, _, _, _, read_more2_ok j1 e, ?_⟩
      rw [more2, if_neg he, cordonref_Reader_Vs_I0_eq]
      exact bf rfl hR
    | ok y j1 =>
      rw [hf] at hs hR
      have ha := adv_v _ _ _ hf
      rw [listV, hf] at hR
      have hR : R (.sl .int (if takeB l ⟨#[44]⟩ j1 = true then listV l (vP isNameS names l) fv fuel (out ++ [fv j]) (j1 + 1) else out ++ [fv j])) (hpR l en goal mvar pv pc (listR l (vP isNameS names l) (fuel + 1) (out ++ [y]) j1).st.1 (listR l (vP isNameS names l) (fuel + 1) (out ++ [y]) j1).st.2) := hR
      rw [listR] at hR
      cases hb : takeB l ⟨#[44]⟩ j1 with
      | true =>
        have hlt := takeB_lt hb
        rw [hb, if_pos rfl, if_pos rfl] at hR
        have hst : ∀ (a b : List Int), (((vP isNameS names l (j1 + 1)).bind fun x j => listR l (vP isNameS names l) fuel (a ++ [x]) j)).st = (((vP isNameS names l (j1 + 1)).bind fun x j => listR l (vP isNameS names l) fuel (b ++ [x]) j)).st := fun a b => list_st _ _
        obtain ⟨n, hn⟩ := read_vs_run hfv hl fuel (out ++ [fv j]) (j1 + 1) (by omega) (by omega) (by rw [List.length_append]; show _ + 1 ≤ _; omega) (by rw [hst (out ++ [fv j]) (out ++ [y])]; exact hR)
        refine ⟨n + 1, ?_⟩
        rw [cordonref_Reader_Vs_I0_eq]
        refine bt rfl ⟨_, _, _, hs, hroom, _, _, _, read_more2_ok j1 0, ?_⟩
        rw [more2, if_pos rfl, if_pos hb]
        exact hn
      | false =>
        rw [hb, if_neg (by decide), if_neg (by decide), needP, needP] at hR
        refine ⟨2, ?_⟩
        rw [cordonref_Reader_Vs_I0_eq]
        refine bt rfl ⟨_, _, _, hs, hroom, _, _, _, read_more2_ok j1 0, ?_⟩
        rw [more2, if_pos rfl, if_neg (by rw [hb]; decide)]
        cases hc : takeB l ⟨#[93]⟩ j1 with
        | true =>
          rw [hc, if_pos rfl] at hR
          rw [if_pos rfl, cordonref_Reader_Vs_I0_eq]
          exact bf rfl hR
        | false =>
          rw [hc, if_neg (by decide)] at hR
          rw [if_neg (by decide), cordonref_Reader_Vs_I0_eq]
          exact bf rfl hR
theorem read_vs_in (hN : ∀ s, mget .str .int s names = ixName s pv 0) (j : Nat) (er : Int) : ∃ x : List Int, (l.length * 32 ≤ 140737488355328 → ∀ (R : D → List (Nat × HObj) → Prop), R (.sl .int x) (hpR l en goal mvar pv pc (stR (listP l (vP isNameS names l) j) j er).1 (stR (listP l (vP isNameS names l) j) j er).2) →
    ∃ (m1 : Int) (m2 : Int) (m3 : Bool), SatH Tryz.prog f_cordonref_Reader_More [.ptr 1000 0, dB true] (hpR l en goal mvar pv pc j er) (dB m3) (hpSr l en goal mvar pv pc m1 m2) ∧ ∃ n, cordonref_Reader_Vs_I0 R n m3 [] l m1 en m2 goal mvar pv pc) ∧
    (er = 0 → ∀ ys k, listP l (vP isNameS names l) j = .ok ys k → x = ys) ∧ x.length ≤ l.length + 2 := by
  by_cases he : er = 0
  · subst he
    have hc : ∀ i, ∃ x, SatH Tryz.prog f_cordonref_Reader_V [.ptr 1000 0] (hpR l en goal mvar pv pc i 0) (dI x) (hpR l en goal mvar pv pc (vP isNameS names l i).st.1 (vP isNameS names l i).st.2) ∧ ∀ y k, vP isNameS names l i = .ok y k → x = y := fun i => by
      obtain ⟨x, h1, h2⟩ := read_v_ok (l := l) (en := en) (goal := goal) (mvar := mvar) (pv := pv) (pc := pc) hN i 0
      rw [stR, if_pos rfl] at h1
      exact ⟨x, h1, h2 rfl⟩
    obtain ⟨fv, hfv⟩ := Classical.axiomOfChoice hc
    refine ⟨(if takeB l ⟨#[91]⟩ j = true then (if takeB l ⟨#[93]⟩ (j + 1) = true then [] else listV l (vP isNameS names l) fv (l.length + 1) [] (j + 1)) else []), fun hl R hR => ?_, fun _ ys k h => ?_, ?_⟩
    · rw [stR, if_pos rfl, listP_more1] at hR
      refine ⟨_, _, _, read_more1_ok j 0, ?_⟩
      rw [more1, if_pos rfl]
      cases h1 : takeB l ⟨#[91]⟩ j with
      | false =>
        rw [h1, if_neg (by decide), if_neg (by decide)] at hR
        rw [if_neg (by decide)]
        exact ⟨1, by rw [cordonref_Reader_Vs_I0_eq]; exact bf rfl hR⟩
      | true =>
        have hlt := takeB_lt h1
        rw [h1, if_pos rfl, if_pos rfl] at hR
        rw [if_pos rfl]
        cases h2 : takeB l ⟨#[93]⟩ (j + 1) with
        | true =>
          rw [h2, if_pos rfl, if_pos rfl] at hR
          rw [if_pos rfl]
          exact ⟨1, by rw [cordonref_Reader_Vs_I0_eq]; exact bf rfl hR⟩
        | false =>
          rw [h2, if_neg (by decide), if_neg (by decide)] at hR
          rw [if_neg (by decide)]
          exact read_vs_run (fun i => (hfv i).1) hl (l.length + 1) [] (j + 1) hlt (by omega) (Nat.zero_le _) hR
    · rw [listP_more1] at h
      split at h
      · rename_i h1
        rw [if_pos h1]
        split at h
        · rename_i h2
          rw [if_pos h2]; injection h
        · rename_i h2
          rw [if_neg h2]
          exact listV_ok (fun i => (hfv i).2) _ _ _ _ _ h
      · cases h
    · split
      · split
        · exact Nat.zero_le _
        · have := listV_len (l := l) (f := vP isNameS names l) (fv := fv) (l.length + 1) [] (j + 1); simpa using this
      · exact Nat.zero_le _
  · refine ⟨[], fun hl R hR => ?_, fun h => absurd h he, Nat.zero_le _⟩
    rw [stR, if_neg he] at hR
    refine ⟨_, _, _, read_more1_ok j er, 1, ?_⟩
    rw [more1, if_neg he, cordonref_Reader_Vs_I0_eq]
    exact bf rfl hR
theorem read_vs_bd (hN : ∀ s, mget .str .int s names = ixName s pv 0) (j : Nat) (er : Int) : ∃ x : List Int, SatH Tryz.prog f_cordonref_Reader_Vs [.ptr 1000 0] (hpR l en goal mvar pv pc j er) (.sl .int x) (hpR l en goal mvar pv pc (stR (listP l (vP isNameS names l) j) j er).1 (stR (listP l (vP isNameS names l) j) j er).2) ∧ (er = 0 → ∀ ys k, listP l (vP isNameS names l) j = .ok ys k → x = ys) ∧ x.length ≤ l.length + 2 := by
  obtain ⟨x, h1, h2, h3⟩ := read_vs_in (l := l) (en := en) (goal := goal) (mvar := mvar) (pv := pv) (pc := pc) hN j er
  refine ⟨x, cordonref_Reader_Vs_sat _ _ _ _ _ _ _ _ fun ok ok2 => ?_, h2, h3⟩
  rw [cordonref_Reader_Vs_eq]
  exact h1 (rtoks_le ok2) _ ⟨rfl, rfl⟩
end
end Go.Proofs.YtogdmcebojiojaaGreatDoor

/- The reader of the document: its numbers. -/
namespace Go.Proofs.YtogdmcebojiojaaGreatDoor
open Go.RowKit
set_option linter.unusedVariables false
set_option linter.unusedSimpArgs false

/-- Numbers are short rows of digits, and nothing else begins with one. -/
def DigOk (l : List Tok) : Prop := ∀ t ∈ l, (t.kind = 2 → 0 < t.text.size ∧ t.text.size ≤ 4 ∧ ∀ i, i < t.text.size → 48 ≤ byteAt t.text i ∧ byteAt t.text i ≤ 57) ∧ (t.kind ≠ 2 → ¬ (48 ≤ byteAt t.text 0 ∧ byteAt t.text 0 ≤ 57))
def numF (s : ByteArray) : Nat → Int
  | 0 => 0
  | k + 1 => 10 * numF s k + byteAt s k - 48
theorem numF_bd {s : ByteArray} (h : ∀ i, i < s.size → 48 ≤ byteAt s i ∧ byteAt s i ≤ 57) : ∀ k, k ≤ s.size → 0 ≤ numF s k ∧ numF s k < 10 ^ k
  | 0, _ => ⟨Int.le_refl _, by rw [numF]; decide⟩
  | k + 1, hk => by
    obtain ⟨h1, h2⟩ := numF_bd h k (by omega)
    have h3 := h k (by omega)
    rw [numF, Int.pow_succ]
    generalize (10 : Int) ^ k = p at h2
    omega
theorem numF_dec {s : ByteArray} (h : ∀ i, i < s.size → 48 ≤ byteAt s i ∧ byteAt s i ≤ 57) : ∀ k, k ≤ s.size → ∃ n : Nat, Lib.decFrom 0 (s.data.toList.take k) = some n ∧ numF s k = (n : Int)
  | 0, _ => ⟨0, rfl, rfl⟩
  | k + 1, hk => by
    obtain ⟨n, h1, h2⟩ := numF_dec h k (by omega)
    have h3 := h k (by omega)
    have hl : k < s.data.size := by have : s.size = s.data.size := rfl; omega
    have hb : s.data.toList[k]? = some (s.data[k]) := by rw [Array.getElem?_toList, Array.getElem?_eq_getElem hl]
    have e : byteAt s k = ((s.data[k]).toNat : Int) := by unfold byteAt; rw [Array.getD_eq_getD_getElem?, Array.getElem?_eq_getElem hl]; rfl
    have hv : Lib.digitVal (s.data[k]) = some ((s.data[k]).toNat - 48) := by unfold Lib.digitVal; rw [if_pos (by omega)]
    refine ⟨_, Lib.decFrom_take _ _ _ _ _ _ h1 hb hv, ?_⟩
    rw [numF, h2]; omega
theorem numF_eq {s : ByteArray} (h0 : 0 < s.size) (h : ∀ i, i < s.size → 48 ≤ byteAt s i ∧ byteAt s i ≤ 57) : Lib.atoi s.data.toList = some (numF s s.size) := by
  obtain ⟨n, h1, h2⟩ := numF_dec h s.size (Nat.le_refl _)
  have hl : s.data.toList.length = s.size := rfl
  rw [List.take_of_length_le (by omega)] at h1
  have h3 := h 0 h0
  have e : byteAt s 0 = ((s.data.toList.headD 0).toNat : Int) := by
    unfold byteAt
    cases hd : s.data.toList with
    | nil => rw [hd] at hl; simp at hl; omega
    | cons c r =>
      have : s.data = (c :: r).toArray := by rw [← hd]
      rw [this]; rfl
  cases hd : s.data.toList with
  | nil => rw [hd] at hl; simp at hl; omega
  | cons c r =>
    rw [hd] at h1 e
    simp only [List.headD_cons] at e
    unfold Lib.atoi
    simp only
    rw [if_neg (by intro x; have := eq_of_beq x; subst this; rw [e] at h3; simp at h3), if_neg (by intro x; have := eq_of_beq x; subst this; rw [e] at h3; simp at h3), Lib.decNat, if_neg (by simp), h1, h2]
    rfl
theorem numOk_of {l : List Tok} (h : DigOk l) : NumOk l := fun t ht hk => by
  obtain ⟨h1, h2, h3⟩ := (h t ht).1 hk
  have hb := numF_bd h3 _ (Nat.le_refl _)
  refine ⟨by omega, _, numF_eq h1 h3, hb.1, ?_⟩
  have h4 : t.text.size = 1 ∨ t.text.size = 2 ∨ t.text.size = 3 ∨ t.text.size = 4 := by omega
  rcases h4 with h4 | h4 | h4 | h4 <;> rw [h4] at hb ⊢ <;> have := hb.2 <;> simp at this <;> omega
theorem numV_F {s : ByteArray} (h0 : 0 < s.size) (h : ∀ i, i < s.size → 48 ≤ byteAt s i ∧ byteAt s i ≤ 57) : numV s = numF s s.size := by
  rw [numV, numF_eq h0 h]; rfl
theorem cordonref_isDigit_ok (a : UInt8) : Sat Tryz.prog f_cordonref_isDigit [.int .u8 (a.toNat : Int)] (dB (inR (a.toNat : Int) 48 57)) :=
  cordonref_isDigit_sat a fun ok => by
    rw [cordonref_isDigit_eq]
    have := a.toNat_lt
    rw [w64_eq (by omega) (by omega)]
    exact call1 (cordonref_between_ok _ _ _) rfl
theorem isDig_ok (s : ByteArray) (i : Nat) : Sat Tryz.prog f_cordonref_isDigit [.int .u8 (byteAt s i)] (dB (inR (byteAt s i) 48 57)) := cordonref_isDigit_ok (s.data.getD i 0)
theorem w64_dig {a b : Int} (h1 : 0 ≤ a) (h2 : a < 1000) (h3 : 48 ≤ b ∧ b ≤ 57) : w64 (w64 (w64 (10 * a) + w64 b) - 48) = 10 * a + b - 48 := by
  rw [w64_eq (n := 10 * a) (by omega) (by omega), w64_eq (n := b) (by omega) (by omega), w64_eq (n := 10 * a + b) (by omega) (by omega), w64_eq (by omega) (by omega)]
theorem numF_lt {s : ByteArray} (h2 : s.size ≤ 4) (h : ∀ i, i < s.size → 48 ≤ byteAt s i ∧ byteAt s i ≤ 57) {k : Nat} (hk : k < s.size) : 0 ≤ numF s k ∧ numF s k < 1000 := by
  obtain ⟨h4, h5⟩ := numF_bd h k (by omega)
  have h6 : k = 0 ∨ k = 1 ∨ k = 2 ∨ k = 3 := by omega
  rcases h6 with rfl | rfl | rfl | rfl <;> simp at h5 <;> omega
section
variable {l : List Tok} {en goal mvar : Int} {pv : List VarD} {pc : List ConD}
theorem read_k_neg {R : D → List (Nat × HObj) → Prop} {s : ByteArray} {i : Nat} (hi : i < 9223372036854775807) (h1 : 0 < s.size) (h2 : s.size ≤ 4) (h : ∀ i, i < s.size → 48 ≤ byteAt s i ∧ byteAt s i ≤ 57)
    (hR : R (dI ((-1) * numV s)) (hpR l en goal mvar pv pc (i + 1) 0)) : ∃ n, cordonref_Reader_K_I0 l en goal mvar pv pc R (i : Int) 0 s n 0 0 := by
  refine up (I := fun n v (a : Int) => cordonref_Reader_K_I0 l en goal mvar pv pc R (i : Int) 0 s n a v) 0 s.size rfl (Nat.zero_le _) (by omega) (fun k a => a = numF s k) rfl fun n k a _ hk ha hn => ?_
  subst ha
  rw [cordonref_Reader_K_I0_eq]
  by_cases hlt : k < s.size
  · rw [sel_lt hlt, Int.toNat_natCast]
    have hb := numF_lt h2 h hlt
    rw [w64_dig hb.1 hb.2 (h k hlt)]
    exact ⟨inb_nat hlt, hn hlt _ rfl⟩
  · have e : k = s.size := by omega
    subst e
    rw [sel_end, ← numV_F h1 h]
    have hb := numF_bd h s.size (Nat.le_refl _)
    rw [← numV_F h1 h] at hb
    have h6 : (10 : Int) ^ s.size ≤ 10000 := by
      have h6 : s.size = 1 ∨ s.size = 2 ∨ s.size = 3 ∨ s.size = 4 := by omega
      rcases h6 with h6 | h6 | h6 | h6 <;> rw [h6] <;> decide
    rw [w64_eq (n := (-1) * numV s) (by omega) (by omega), w64_up hi]
    exact hR
theorem read_k_pos {R : D → List (Nat × HObj) → Prop} {s : ByteArray} {i : Nat} (hi : i < 9223372036854775807) (h1 : 0 < s.size) (h2 : s.size ≤ 4) (h : ∀ i, i < s.size → 48 ≤ byteAt s i ∧ byteAt s i ≤ 57)
    (hR : R (dI (1 * numV s)) (hpR l en goal mvar pv pc (i + 1) 0)) : ∃ n, cordonref_Reader_K_I0_4 l (i : Int) en 0 goal mvar pv pc R s n 0 0 := by
  refine up (I := fun n v (a : Int) => cordonref_Reader_K_I0_4 l (i : Int) en 0 goal mvar pv pc R s n a v) 0 s.size rfl (Nat.zero_le _) (by omega) (fun k a => a = numF s k) rfl fun n k a _ hk ha hn => ?_
  subst ha
  rw [cordonref_Reader_K_I0_4_eq]
  by_cases hlt : k < s.size
  · rw [sel_lt hlt, Int.toNat_natCast]
    have hb := numF_lt h2 h hlt
    rw [w64_dig hb.1 hb.2 (h k hlt)]
    exact ⟨inb_nat hlt, hn hlt _ rfl⟩
  · have e : k = s.size := by omega
    subst e
    rw [sel_end, ← numV_F h1 h]
    have hb := numF_bd h s.size (Nat.le_refl _)
    rw [← numV_F h1 h] at hb
    have h6 : (10 : Int) ^ s.size ≤ 10000 := by
      have h6 : s.size = 1 ∨ s.size = 2 ∨ s.size = 3 ∨ s.size = 4 := by omega
      rcases h6 with h6 | h6 | h6 | h6 <;> rw [h6] <;> decide
    rw [w64_eq (n := 1 * numV s) (by omega) (by omega), w64_up hi]
    exact hR
theorem tok_mem {j : Nat} (hj : j < l.length) : tokA l j ∈ l := by
  unfold tokA
  rw [List.getD_eq_getElem?_getD, List.getElem?_eq_getElem hj]; exact List.getElem_mem hj
theorem size_ne {s : ByteArray} (h : 0 < s.size) : s ≠ ⟨#[]⟩ := by rintro rfl; exact absurd h (by decide)
theorem size_posR {s : ByteArray} (h : s ≠ ⟨#[]⟩) : 0 < s.size := by
  rcases Nat.eq_zero_or_pos s.size with e | e
  · exact absurd (ByteArray.size_eq_zero_iff.1 e) h
  · exact e
theorem inD {n : Int} (h : 48 ≤ n ∧ n ≤ 57) : inR n 48 57 = true := inR_true.2 h
theorem inD' {n : Int} (h : ¬ (48 ≤ n ∧ n ≤ 57)) : inR n 48 57 = false := inR_false.2 (by omega)
theorem read_k_ok (hd : DigOk l) (j : Nat) (er : Int) : SatR l en goal mvar pv pc f_cordonref_Reader_K [.ptr 1000 0] (fun n : Int => dI n) (kP numV l j) j er := by
  by_cases he : er = 0
  · subst he
    refine ⟨(match kP numV l j with | .ok n _ => n | .err _ _ => 0), cordonref_Reader_K_sat _ _ _ _ _ _ _ _ fun ok ok2 => ?_, fun _ y k hy => by rw [hy]⟩
    have hl := rtoks_le ok2
    rw [cordonref_Reader_K_eq, stR, if_pos rfl, kP]
    refine ⟨_, read_text_ok j 0, ?_⟩
    cases hb : takeB l ⟨#[45]⟩ j with
    | true =>
      have hlt := takeB_lt hb
      refine dt ((rText_take (by decide)).2 hb) ⟨_, _, read_need_ok (s := ⟨#[45]⟩) (by decide) j 0, ?_⟩
      rw [need_st, if_pos rfl, if_pos hb, if_pos rfl]
      refine ⟨_, read_text_ok (j + 1) 0, ?_⟩
      generalize j + 1 = i at *
      rw [digP]
      by_cases h : i < l.length
      · have ht : rText l i 0 = (tokA l i).text := if_pos ⟨rfl, h⟩
        have hk := hd _ (tok_mem h)
        rw [ht]
        by_cases h2 : (tokA l i).kind = 2
        · obtain ⟨q1, q2, q3⟩ := hk.1 h2
          refine df (size_ne q1) ⟨inb_nat (k := 0) q1, call1 (isDig_ok _ 0) (bnf (inD (q3 0 q1)) (dt (by decide) ?_))⟩
          by_cases h0 : (tokA l i).text = ⟨#[48]⟩
          · rw [if_neg fun x => x.2.2 ⟨by decide, h0⟩]
            exact dt h0 ⟨_, read_wrong_ok i 0 1, rfl, rfl⟩
          · rw [if_pos ⟨h, h2, fun x => h0 x.2⟩]
            exact df h0 (read_k_neg (by omega) q1 q2 q3 ⟨rfl, rfl⟩)
        · rw [if_neg fun x => h2 x.2.1]
          by_cases h0 : (tokA l i).text = ⟨#[]⟩
          · exact dt h0 ⟨_, read_wrong_ok i 0 1, rfl, rfl⟩
          · exact df h0 ⟨inb_nat (k := 0) (size_posR h0), call1 (isDig_ok _ 0) (bnt (inD' (hk.2 h2)) ⟨_, read_wrong_ok i 0 1, rfl, rfl⟩)⟩
      · have ht : rText l i 0 = ⟨#[]⟩ := if_neg fun x => h x.2
        rw [if_neg fun x => h x.1, ht]
        exact dt rfl ⟨_, read_wrong_ok i 0 1, rfl, rfl⟩
    | false =>
      refine df (fun e => by rw [(rText_take (by decide)).1 e] at hb; cases hb) ⟨_, read_text_ok j 0, ?_⟩
      rw [if_neg (by decide), digP]
      by_cases h : j < l.length
      · have ht : rText l j 0 = (tokA l j).text := if_pos ⟨rfl, h⟩
        have hk := hd _ (tok_mem h)
        rw [ht]
        by_cases h2 : (tokA l j).kind = 2
        · obtain ⟨q1, q2, q3⟩ := hk.1 h2
          refine df (size_ne q1) ⟨inb_nat (k := 0) q1, call1 (isDig_ok _ 0) (bnf (inD (q3 0 q1)) (df (by decide) ?_))⟩
          rw [if_pos ⟨h, h2, fun x => absurd x.1 (by decide)⟩]
          exact read_k_pos (by omega) q1 q2 q3 ⟨rfl, rfl⟩
        · rw [if_neg fun x => h2 x.2.1]
          by_cases h0 : (tokA l j).text = ⟨#[]⟩
          · exact dt h0 ⟨_, read_wrong_ok j 0 1, rfl, rfl⟩
          · exact df h0 ⟨inb_nat (k := 0) (size_posR h0), call1 (isDig_ok _ 0) (bnt (inD' (hk.2 h2)) ⟨_, read_wrong_ok j 0 1, rfl, rfl⟩)⟩
      · have ht : rText l j 0 = ⟨#[]⟩ := if_neg fun x => h x.2
        rw [if_neg fun x => h x.1, ht]
        exact dt rfl ⟨_, read_wrong_ok j 0 1, rfl, rfl⟩
  · refine ⟨0, cordonref_Reader_K_sat _ _ _ _ _ _ _ _ fun ok ok2 => ?_, fun h => absurd h he⟩
    rw [cordonref_Reader_K_eq, stR, if_neg he]
    refine ⟨_, read_text_ok j er, ?_⟩
    rw [rText_bad he]
    refine df (by decide) ⟨_, read_text_ok j er, ?_⟩
    rw [rText_bad he]
    refine dt rfl ⟨_, read_wrong_ok j er 1, ?_⟩
    rw [if_neg he]
    exact ⟨rfl, rfl⟩
end
end Go.Proofs.YtogdmcebojiojaaGreatDoor

/- The reader's lists of numbers, literals, lists of these: printed by gen_pread4.py 6. -/
namespace Go.Proofs.YtogdmcebojiojaaGreatDoor
open Go.RowKit
set_option linter.unusedVariables false
set_option linter.unusedSimpArgs false

section
variable {l : List Tok} {en goal mvar : Int} {pv : List VarD} {pc : List ConD} {names : List (ByteArray × Int)}
theorem errN_k {nv : ByteArray → Int} : ErrN (kP nv l) := fun i j e h => by
  unfold kP digP at h
  split at h <;> split at h <;> first | (cases h; done) | (injection h with _ h; subst h; decide)
theorem errN_listR {α : Type} {f : Nat → Pr α} (hf : ErrN f) : ∀ (n : Nat) (acc : List α), ErrN (listR l f n acc)
  | 0, acc => fun i j e h => by rw [listR] at h; injection h with _ h; subst h; decide
  | n + 1, acc => fun i j e h => by
    rw [listR] at h
    split at h
    · cases hv : f (i + 1) with
      | ok x k => rw [hv] at h; exact errN_listR hf n _ _ _ _ h
      | err k e' => rw [hv] at h; injection h with _ h; subst h; exact hf _ _ _ hv
    · rw [needP, needP] at h
      split at h
      · cases h
      · injection h with _ h; subst h; decide
theorem errN_list {α : Type} {f : Nat → Pr α} (hf : ErrN f) : ErrN (listP l f) := fun i j e h => by
  rw [listP_more1] at h
  split at h
  · split at h
    · cases h
    · cases hv : f (i + 1) with
      | ok x k => rw [hv] at h; exact errN_listR hf _ _ _ _ _ h
      | err k e' => rw [hv] at h; injection h with _ h; subst h; exact hf _ _ _ hv
  · injection h with _ h; subst h; decide
theorem errN_word {ss : List ByteArray} : ErrN (wordR l ss) := fun i j e h => by
  unfold wordR at h
  split at h
  · cases h
  · injection h with _ h; subst h; decide
theorem errN_bind {α β : Type} {f : Nat → Pr α} {g : α → Nat → Pr β} (hf : ErrN f) (hg : ∀ x, ErrN (g x)) : ErrN (fun j => (f j).bind g) := fun i j e h => by
  cases hv : f i with
  | ok x k => simp only [hv, Pr.bind] at h; exact hg _ _ _ _ h
  | err k e' => simp only [hv, Pr.bind] at h; injection h with _ h; subst h; exact hf _ _ _ hv
theorem errN_ok {α : Type} {x : α} {f : Nat → Nat} : ErrN (fun j => Pr.ok x (f j)) := fun i j e h => by cases h
theorem wordP_shift {ss : List ByteArray} {j : Nat} : ∀ (i : Int), wordP l ss (i + 1) j = (wordP l ss i j).map (1 + ·) := by
  induction ss with
  | nil => exact fun _ => rfl
  | cons s r ih =>
    intro i
    rw [wordP, wordP]
    split
    · show some (i + 1) = some (1 + i); rw [Int.add_comm]
    · exact ih (i + 1)
theorem read_ks_run {fv : Nat → Int} (hfv : ∀ i, SatH Tryz.prog f_cordonref_Reader_K [.ptr 1000 0] (hpR l en goal mvar pv pc i 0) (dI (fv i)) (hpR l en goal mvar pv pc (kP numV l i).st.1 (kP numV l i).st.2)) (hl : l.length * 32 ≤ 140737488355328) {R : D → List (Nat × HObj) → Prop} : ∀ (fuel : Nat) (out : List Int) (j : Nat), j ≤ l.length → l.length < j + fuel → out.length ≤ j → 
    R (.sl .int (listV l (kP numV l) fv fuel out j)) (hpR l en goal mvar pv pc ((kP numV l j).bind fun x j => listR l (kP numV l) fuel (out ++ [x]) j).st.1 ((kP numV l j).bind fun x j => listR l (kP numV l) fuel (out ++ [x]) j).st.2) →
    ∃ n, cordonref_Reader_Ks_I0 R n true out l (j : Int) en 0 goal mvar pv pc
  | 0, out, j, h1, h2, _, _ => by omega
  | fuel + 1, out, j, h1, h2, h3, hR => by
    have hs := hfv j
    have hroom : room .int (out.length + [fv j].length) = true := room_of (t := .int) (by show (out.length + 1) * 8 ≤ _; omega)
    cases hf : kP numV l j with
    | err j1 e =>
      rw [hf] at hs hR
      rw [listV, hf] at hR
      have he := errN_k _ _ _ hf
      refine ⟨2, ?_⟩
      rw [cordonref_Reader_Ks_I0_eq]
      refine bt rfl ⟨_, _, _, hs, hroom, _, _, _, read_more2_ok j1 e, ?_⟩
      rw [more2, if_neg he, cordonref_Reader_Ks_I0_eq]
      exact bf rfl hR
    | ok y j1 =>
      rw [hf] at hs hR
      have ha := adv_k _ _ _ hf
      rw [listV, hf] at hR
      have hR : R (.sl .int (if takeB l ⟨#[44]⟩ j1 = true then listV l (kP numV l) fv fuel (out ++ [fv j]) (j1 + 1) else out ++ [fv j])) (hpR l en goal mvar pv pc (listR l (kP numV l) (fuel + 1) (out ++ [y]) j1).st.1 (listR l (kP numV l) (fuel + 1) (out ++ [y]) j1).st.2) := hR
      rw [listR] at hR
      cases hb : takeB l ⟨#[44]⟩ j1 with
      | true =>
        have hlt := takeB_lt hb
        rw [hb, if_pos rfl, if_pos rfl] at hR
        have hst : ∀ (a b : List Int), (((kP numV l (j1 + 1)).bind fun x j => listR l (kP numV l) fuel (a ++ [x]) j)).st = (((kP numV l (j1 + 1)).bind fun x j => listR l (kP numV l) fuel (b ++ [x]) j)).st := fun a b => list_st _ _
        obtain ⟨n, hn⟩ := read_ks_run hfv hl fuel (out ++ [fv j]) (j1 + 1) (by omega) (by omega) (by rw [List.length_append]; show _ + 1 ≤ _; omega) (by rw [hst (out ++ [fv j]) (out ++ [y])]; exact hR)
        refine ⟨n + 1, ?_⟩
        rw [cordonref_Reader_Ks_I0_eq]
        refine bt rfl ⟨_, _, _, hs, hroom, _, _, _, read_more2_ok j1 0, ?_⟩
        rw [more2, if_pos rfl, if_pos hb]
        exact hn
      | false =>
        rw [hb, if_neg (by decide), if_neg (by decide), needP, needP] at hR
        refine ⟨2, ?_⟩
        rw [cordonref_Reader_Ks_I0_eq]
        refine bt rfl ⟨_, _, _, hs, hroom, _, _, _, read_more2_ok j1 0, ?_⟩
        rw [more2, if_pos rfl, if_neg (by rw [hb]; decide)]
        cases hc : takeB l ⟨#[93]⟩ j1 with
        | true =>
          rw [hc, if_pos rfl] at hR
          rw [if_pos rfl, cordonref_Reader_Ks_I0_eq]
          exact bf rfl hR
        | false =>
          rw [hc, if_neg (by decide)] at hR
          rw [if_neg (by decide), cordonref_Reader_Ks_I0_eq]
          exact bf rfl hR
theorem read_ks_in (hd : DigOk l) (j : Nat) (er : Int) : ∃ x : List Int, (l.length * 32 ≤ 140737488355328 → ∀ (R : D → List (Nat × HObj) → Prop), R (.sl .int x) (hpR l en goal mvar pv pc (stR (listP l (kP numV l) j) j er).1 (stR (listP l (kP numV l) j) j er).2) →
    ∃ (m1 : Int) (m2 : Int) (m3 : Bool), SatH Tryz.prog f_cordonref_Reader_More [.ptr 1000 0, dB true] (hpR l en goal mvar pv pc j er) (dB m3) (hpSr l en goal mvar pv pc m1 m2) ∧ ∃ n, cordonref_Reader_Ks_I0 R n m3 [] l m1 en m2 goal mvar pv pc) ∧
    (er = 0 → ∀ ys k, listP l (kP numV l) j = .ok ys k → x = ys) ∧ x.length ≤ l.length + 2 := by
  by_cases he : er = 0
  · subst he
    have hc : ∀ i, ∃ x, SatH Tryz.prog f_cordonref_Reader_K [.ptr 1000 0] (hpR l en goal mvar pv pc i 0) (dI x) (hpR l en goal mvar pv pc (kP numV l i).st.1 (kP numV l i).st.2) ∧ ∀ y k, kP numV l i = .ok y k → x = y := fun i => by
      obtain ⟨x, h1, h2⟩ := read_k_ok (l := l) (en := en) (goal := goal) (mvar := mvar) (pv := pv) (pc := pc) hd i 0
      rw [stR, if_pos rfl] at h1
      exact ⟨x, h1, h2 rfl⟩
    obtain ⟨fv, hfv⟩ := Classical.axiomOfChoice hc
    refine ⟨(if takeB l ⟨#[91]⟩ j = true then (if takeB l ⟨#[93]⟩ (j + 1) = true then [] else listV l (kP numV l) fv (l.length + 1) [] (j + 1)) else []), fun hl R hR => ?_, fun _ ys k h => ?_, ?_⟩
    · rw [stR, if_pos rfl, listP_more1] at hR
      refine ⟨_, _, _, read_more1_ok j 0, ?_⟩
      rw [more1, if_pos rfl]
      cases h1 : takeB l ⟨#[91]⟩ j with
      | false =>
        rw [h1, if_neg (by decide), if_neg (by decide)] at hR
        rw [if_neg (by decide)]
        exact ⟨1, by rw [cordonref_Reader_Ks_I0_eq]; exact bf rfl hR⟩
      | true =>
        have hlt := takeB_lt h1
        rw [h1, if_pos rfl, if_pos rfl] at hR
        rw [if_pos rfl]
        cases h2 : takeB l ⟨#[93]⟩ (j + 1) with
        | true =>
          rw [h2, if_pos rfl, if_pos rfl] at hR
          rw [if_pos rfl]
          exact ⟨1, by rw [cordonref_Reader_Ks_I0_eq]; exact bf rfl hR⟩
        | false =>
          rw [h2, if_neg (by decide), if_neg (by decide)] at hR
          rw [if_neg (by decide)]
          exact read_ks_run (fun i => (hfv i).1) hl (l.length + 1) [] (j + 1) hlt (by omega) (Nat.zero_le _) hR
    · rw [listP_more1] at h
      split at h
      · rename_i h1
        rw [if_pos h1]
        split at h
        · rename_i h2
          rw [if_pos h2]; injection h
        · rename_i h2
          rw [if_neg h2]
          exact listV_ok (fun i => (hfv i).2) _ _ _ _ _ h
      · cases h
    · split
      · split
        · exact Nat.zero_le _
        · have := listV_len (l := l) (f := kP numV l) (fv := fv) (l.length + 1) [] (j + 1); simpa using this
      · exact Nat.zero_le _
  · refine ⟨[], fun hl R hR => ?_, fun h => absurd h he, Nat.zero_le _⟩
    rw [stR, if_neg he] at hR
    refine ⟨_, _, _, read_more1_ok j er, 1, ?_⟩
    rw [more1, if_neg he, cordonref_Reader_Ks_I0_eq]
    exact bf rfl hR
theorem read_ks_bd (hd : DigOk l) (j : Nat) (er : Int) : ∃ x : List Int, SatH Tryz.prog f_cordonref_Reader_Ks [.ptr 1000 0] (hpR l en goal mvar pv pc j er) (.sl .int x) (hpR l en goal mvar pv pc (stR (listP l (kP numV l) j) j er).1 (stR (listP l (kP numV l) j) j er).2) ∧ (er = 0 → ∀ ys k, listP l (kP numV l) j = .ok ys k → x = ys) ∧ x.length ≤ l.length + 2 := by
  obtain ⟨x, h1, h2, h3⟩ := read_ks_in (l := l) (en := en) (goal := goal) (mvar := mvar) (pv := pv) (pc := pc) hd j er
  refine ⟨x, cordonref_Reader_Ks_sat _ _ _ _ _ _ _ _ fun ok ok2 => ?_, h2, h3⟩
  rw [cordonref_Reader_Ks_eq]
  exact h1 (rtoks_le ok2) _ ⟨rfl, rfl⟩
theorem read_ks_ok (hd : DigOk l) (j : Nat) (er : Int) : SatR l en goal mvar pv pc f_cordonref_Reader_Ks [.ptr 1000 0] (fun xs => .sl .int xs) (listP l (kP numV l) j) j er :=
  let ⟨x, h1, h2, _⟩ := read_ks_bd hd j er
  ⟨x, h1, h2⟩
theorem litP_eq {j : Nat} : litP isNameS numV names l j = (vP isNameS names l j).bind fun v j => (wordR l opW j).bind fun o j => (kP numV l j).bind fun n j => .ok ⟨v, 1 + o, n⟩ j := by
  unfold litP
  congr 1; funext v j
  have := wordP_shift (l := l) (ss := opW) (j := j) 0
  rw [show (1 : Int) = 0 + 1 from rfl, this]
  unfold wordR
  cases wordP l opW 0 j <;> rfl
theorem errN_lit : ErrN (litP isNameS numV names l) := fun i j e h => by
  rw [litP_eq] at h
  exact errN_bind errN_v (fun v => errN_bind errN_word fun o => errN_bind errN_k fun n => errN_ok) _ _ _ h
/-- What is answered, and where one stands then. -/
def Ans {α : Type} (r : Pr α) (j : Nat) (er : Int) (x : α) (s : Nat × Int) : Prop := s = stR r j er ∧ (er = 0 → ∀ y k, r = .ok y k → x = y)
theorem Ans.bind {α β : Type} {r : Pr α} {f : α → Nat → Pr β} {j : Nat} {er : Int} {x : α} {z : β} {s s' : Nat × Int} (he : ∀ i e, r = .err i e → e ≠ 0) (h1 : Ans r j er x s) (h2 : Ans (f x s.1) s.1 s.2 z s') : Ans (r.bind f) j er z s' := by
  obtain ⟨rfl, h1⟩ := h1
  obtain ⟨rfl, h2⟩ := h2
  by_cases h : er = 0
  · subst h
    have e : stR r j 0 = r.st := if_pos rfl
    rw [e] at h2 ⊢
    have e' : stR (r.bind f) j 0 = (r.bind f).st := if_pos rfl
    cases r with
    | ok y k =>
      have hx := h1 rfl y k rfl
      subst hx
      exact ⟨(if_pos rfl).trans e'.symm, fun _ => h2 rfl⟩
    | err k e1 =>
      have hne := he k e1 rfl
      exact ⟨(if_neg hne).trans e'.symm, fun _ y k h => by cases h⟩
  · have e : stR r j er = (j, er) := if_neg h
    rw [e] at h2 ⊢
    exact ⟨(if_neg h).trans (if_neg h).symm, fun h' => absurd h' h⟩
theorem Ans.pure {α : Type} {x : α} {j : Nat} {er : Int} : Ans (.ok x j) j er x (j, er) := ⟨by unfold stR; split <;> simp_all [Pr.st], fun _ y k h => by injection h⟩
theorem SatR.ans {α : Type} {f : FuncId} {args : List D} {d : α → D} {r : Pr α} {j : Nat} {er : Int} (h : SatR l en goal mvar pv pc f args d r j er) : ∃ x s, SatH Tryz.prog f args (hpR l en goal mvar pv pc j er) (d x) (hpR l en goal mvar pv pc s.1 s.2) ∧ Ans r j er x s :=
  let ⟨x, h1, h2⟩ := h
  ⟨x, _, h1, rfl, h2⟩
theorem SatR.of {α : Type} {f : FuncId} {args : List D} {d : α → D} {r : Pr α} {j : Nat} {er : Int} {x : α} {s : Nat × Int} (h : SatH Tryz.prog f args (hpR l en goal mvar pv pc j er) (d x) (hpR l en goal mvar pv pc s.1 s.2)) (ha : Ans r j er x s) : SatR l en goal mvar pv pc f args d r j er := by
  obtain ⟨rfl, h2⟩ := ha
  exact ⟨x, h, h2⟩
theorem read_lit_ok (hd : DigOk l) (hN : ∀ s, mget .str .int s names = ixName s pv 0) (j : Nat) (er : Int) : SatR l en goal mvar pv pc f_cordonref_Reader_Lit [.ptr 1000 0] dL (litP isNameS numV names l j) j er := by
  obtain ⟨xv, s1, h1, a1⟩ := (read_v_ok (l := l) (en := en) (goal := goal) (mvar := mvar) (pv := pv) (pc := pc) hN j er).ans
  obtain ⟨xw, h2, a2, hw1, hw2⟩ := read_word_b (l := l) (en := en) (goal := goal) (mvar := mvar) (pv := pv) (pc := pc) (ss := opW) (by decide) (by decide) s1.1 s1.2
  obtain ⟨xk, s3, h3, a3⟩ := (read_k_ok (en := en) (goal := goal) (mvar := mvar) (pv := pv) (pc := pc) hd (stR (wordR l opW s1.1) s1.1 s1.2).1 (stR (wordR l opW s1.1) s1.1 s1.2).2).ans
  refine SatR.of (x := ⟨xv, 1 + xw, xk⟩) (s := s3) (cordonref_Reader_Lit_sat _ _ _ _ _ _ _ _ fun ok ok2 => ?_) ?_
  · rw [cordonref_Reader_Lit_eq]
    refine ⟨_, _, _, h1, _, _, _, h2, _, _, _, h3, ?_⟩
    have : (opW.length : Int) = 4 := rfl
    rw [w64_eq (by omega) (by omega)]
    exact ⟨rfl, rfl⟩
  · rw [litP_eq]
    exact Ans.bind (fun i e h => errN_v _ _ _ h) a1 (Ans.bind (fun i e h => errN_word _ _ _ h) ⟨rfl, a2⟩ (Ans.bind (fun i e h => errN_k _ _ _ h) a3 Ans.pure))
theorem read_rows_run {fv : Nat → (List Int)} (hfv : ∀ i, SatH Tryz.prog f_cordonref_Reader_Ks [.ptr 1000 0] (hpR l en goal mvar pv pc i 0) (.sl .int (fv i)) (hpR l en goal mvar pv pc (listP l (kP numV l) i).st.1 (listP l (kP numV l) i).st.2)) (hl : l.length * 32 ≤ 140737488355328) {R : D → List (Nat × HObj) → Prop} {kd : Int} {xs : List Int} : ∀ (fuel : Nat) (out : List (List Int)) (j : Nat), j ≤ l.length → l.length < j + fuel → out.length ≤ j → 
    R (.agg [dI kd, .sl .int xs, .sl .int ([] : List Int), dI 0, dS (listV l (listP l (kP numV l)) fv fuel out j), .sl .lit ([] : List LitD)]) (hpR l en goal mvar pv pc ((listP l (kP numV l) j).bind fun x j => listR l (listP l (kP numV l)) fuel (out ++ [x]) j).st.1 ((listP l (kP numV l) j).bind fun x j => listR l (listP l (kP numV l)) fuel (out ++ [x]) j).st.2) →
    ∃ n, cordonref_Reader_Con_I1 R n true 0 ([] : List Int) ([] : List Int) 0 ([] : List (List Int)) ([] : List LitD) kd xs ([] : List Int) 0 l (j : Int) en 0 goal mvar pv pc out ([] : List LitD)
  | 0, out, j, h1, h2, _, _ => by omega
  | fuel + 1, out, j, h1, h2, h3, hR => by
    have hs := hfv j
    have hroom : room (.list .int) (out.length + [fv j].length) = true := room_of (t := (.list .int)) (by show (out.length + 1) * 24 ≤ _; omega)
    cases hf : listP l (kP numV l) j with
    | err j1 e =>
      rw [hf] at hs hR
      rw [listV, hf] at hR
      have he := (errN_list errN_k) _ _ _ hf
      refine ⟨2, ?_⟩
      rw [cordonref_Reader_Con_I1_eq]
      refine bt rfl ((fun h => ⟨h, h⟩) ⟨_, _, _, hs, hroom, _, _, _, read_more2_ok j1 e, ?_⟩)
      rw [more2, if_neg he, cordonref_Reader_Con_I1_eq]
      exact bf rfl hR
    | ok y j1 =>
      rw [hf] at hs hR
      have ha := (adv_list adv_k) _ _ _ hf
      rw [listV, hf] at hR
      have hR : R (.agg [dI kd, .sl .int xs, .sl .int ([] : List Int), dI 0, dS (if takeB l ⟨#[44]⟩ j1 = true then listV l (listP l (kP numV l)) fv fuel (out ++ [fv j]) (j1 + 1) else out ++ [fv j]), .sl .lit ([] : List LitD)]) (hpR l en goal mvar pv pc (listR l (listP l (kP numV l)) (fuel + 1) (out ++ [y]) j1).st.1 (listR l (listP l (kP numV l)) (fuel + 1) (out ++ [y]) j1).st.2) := hR
      rw [listR] at hR
      cases hb : takeB l ⟨#[44]⟩ j1 with
      | true =>
        have hlt := takeB_lt hb
        rw [hb, if_pos rfl, if_pos rfl] at hR
        have hst : ∀ (a b : List (List Int)), (((listP l (kP numV l) (j1 + 1)).bind fun x j => listR l (listP l (kP numV l)) fuel (a ++ [x]) j)).st = (((listP l (kP numV l) (j1 + 1)).bind fun x j => listR l (listP l (kP numV l)) fuel (b ++ [x]) j)).st := fun a b => list_st _ _
        obtain ⟨n, hn⟩ := read_rows_run hfv hl fuel (out ++ [fv j]) (j1 + 1) (by omega) (by omega) (by rw [List.length_append]; show _ + 1 ≤ _; omega) (by rw [hst (out ++ [fv j]) (out ++ [y])]; exact hR)
        refine ⟨n + 1, ?_⟩
        rw [cordonref_Reader_Con_I1_eq]
        refine bt rfl ((fun h => ⟨h, h⟩) ⟨_, _, _, hs, hroom, _, _, _, read_more2_ok j1 0, ?_⟩)
        rw [more2, if_pos rfl, if_pos hb]
        exact hn
      | false =>
        rw [hb, if_neg (by decide), if_neg (by decide), needP, needP] at hR
        refine ⟨2, ?_⟩
        rw [cordonref_Reader_Con_I1_eq]
        refine bt rfl ((fun h => ⟨h, h⟩) ⟨_, _, _, hs, hroom, _, _, _, read_more2_ok j1 0, ?_⟩)
        rw [more2, if_pos rfl, if_neg (by rw [hb]; decide)]
        cases hc : takeB l ⟨#[93]⟩ j1 with
        | true =>
          rw [hc, if_pos rfl] at hR
          rw [if_pos rfl, cordonref_Reader_Con_I1_eq]
          exact bf rfl hR
        | false =>
          rw [hc, if_neg (by decide)] at hR
          rw [if_neg (by decide), cordonref_Reader_Con_I1_eq]
          exact bf rfl hR
theorem read_rows_in (hd : DigOk l) (j : Nat) (er : Int) : ∃ x : List (List Int), (l.length * 32 ≤ 140737488355328 → ∀ (kd : Int) (xs : List Int) (R : D → List (Nat × HObj) → Prop), R (.agg [dI kd, .sl .int xs, .sl .int ([] : List Int), dI 0, dS x, .sl .lit ([] : List LitD)]) (hpR l en goal mvar pv pc (stR (listP l (listP l (kP numV l)) j) j er).1 (stR (listP l (listP l (kP numV l)) j) j er).2) →
    ∃ (m1 : Int) (m2 : Int) (m3 : Bool), SatH Tryz.prog f_cordonref_Reader_More [.ptr 1000 0, dB true] (hpR l en goal mvar pv pc j er) (dB m3) (hpSr l en goal mvar pv pc m1 m2) ∧ ∃ n, cordonref_Reader_Con_I1 R n m3 0 ([] : List Int) ([] : List Int) 0 ([] : List (List Int)) ([] : List LitD) kd xs ([] : List Int) 0 l m1 en m2 goal mvar pv pc ([] : List (List Int)) ([] : List LitD)) ∧
    (er = 0 → ∀ ys k, listP l (listP l (kP numV l)) j = .ok ys k → x = ys) ∧ x.length ≤ l.length + 2 := by
  by_cases he : er = 0
  · subst he
    have hc : ∀ i, ∃ x, SatH Tryz.prog f_cordonref_Reader_Ks [.ptr 1000 0] (hpR l en goal mvar pv pc i 0) (.sl .int x) (hpR l en goal mvar pv pc (listP l (kP numV l) i).st.1 (listP l (kP numV l) i).st.2) ∧ ∀ y k, listP l (kP numV l) i = .ok y k → x = y := fun i => by
      obtain ⟨x, h1, h2⟩ := read_ks_ok (l := l) (en := en) (goal := goal) (mvar := mvar) (pv := pv) (pc := pc) hd i 0
      rw [stR, if_pos rfl] at h1
      exact ⟨x, h1, h2 rfl⟩
    obtain ⟨fv, hfv⟩ := Classical.axiomOfChoice hc
    refine ⟨(if takeB l ⟨#[91]⟩ j = true then (if takeB l ⟨#[93]⟩ (j + 1) = true then [] else listV l (listP l (kP numV l)) fv (l.length + 1) [] (j + 1)) else []), fun hl kd xs R hR => ?_, fun _ ys k h => ?_, ?_⟩
    · rw [stR, if_pos rfl, listP_more1] at hR
      refine ⟨_, _, _, read_more1_ok j 0, ?_⟩
      rw [more1, if_pos rfl]
      cases h1 : takeB l ⟨#[91]⟩ j with
      | false =>
        rw [h1, if_neg (by decide), if_neg (by decide)] at hR
        rw [if_neg (by decide)]
        exact ⟨1, by rw [cordonref_Reader_Con_I1_eq]; exact bf rfl hR⟩
      | true =>
        have hlt := takeB_lt h1
        rw [h1, if_pos rfl, if_pos rfl] at hR
        rw [if_pos rfl]
        cases h2 : takeB l ⟨#[93]⟩ (j + 1) with
        | true =>
          rw [h2, if_pos rfl, if_pos rfl] at hR
          rw [if_pos rfl]
          exact ⟨1, by rw [cordonref_Reader_Con_I1_eq]; exact bf rfl hR⟩
        | false =>
          rw [h2, if_neg (by decide), if_neg (by decide)] at hR
          rw [if_neg (by decide)]
          exact read_rows_run (fun i => (hfv i).1) hl (l.length + 1) [] (j + 1) hlt (by omega) (Nat.zero_le _) hR
    · rw [listP_more1] at h
      split at h
      · rename_i h1
        rw [if_pos h1]
        split at h
        · rename_i h2
          rw [if_pos h2]; injection h
        · rename_i h2
          rw [if_neg h2]
          exact listV_ok (fun i => (hfv i).2) _ _ _ _ _ h
      · cases h
    · split
      · split
        · exact Nat.zero_le _
        · have := listV_len (l := l) (f := listP l (kP numV l)) (fv := fv) (l.length + 1) [] (j + 1); simpa using this
      · exact Nat.zero_le _
  · refine ⟨[], fun hl kd xs R hR => ?_, fun h => absurd h he, Nat.zero_le _⟩
    rw [stR, if_neg he] at hR
    refine ⟨_, _, _, read_more1_ok j er, 1, ?_⟩
    rw [more1, if_neg he, cordonref_Reader_Con_I1_eq]
    exact bf rfl hR
theorem read_lits_run {fv : Nat → LitD} (hfv : ∀ i, SatH Tryz.prog f_cordonref_Reader_Lit [.ptr 1000 0] (hpR l en goal mvar pv pc i 0) (dL (fv i)) (hpR l en goal mvar pv pc (litP isNameS numV names l i).st.1 (litP isNameS numV names l i).st.2)) (hl : l.length * 32 ≤ 140737488355328) {R : D → List (Nat × HObj) → Prop} {kd : Int} : ∀ (fuel : Nat) (out : List LitD) (j : Nat), j ≤ l.length → l.length < j + fuel → out.length ≤ j → 
    R (.agg [dI kd, .sl .int ([] : List Int), .sl .int ([] : List Int), dI 0, dS ([] : List (List Int)), .sl .lit (listV l (litP isNameS numV names l) fv fuel out j)]) (hpR l en goal mvar pv pc ((litP isNameS numV names l j).bind fun x j => listR l (litP isNameS numV names l) fuel (out ++ [x]) j).st.1 ((litP isNameS numV names l j).bind fun x j => listR l (litP isNameS numV names l) fuel (out ++ [x]) j).st.2) →
    ∃ n, cordonref_Reader_Con_I3 R n true 0 ([] : List Int) ([] : List Int) 0 ([] : List (List Int)) ([] : List LitD) kd ([] : List Int) ([] : List Int) 0 l (j : Int) en 0 goal mvar pv pc ([] : List (List Int)) out
  | 0, out, j, h1, h2, _, _ => by omega
  | fuel + 1, out, j, h1, h2, h3, hR => by
    have hs := hfv j
    have hroom : room .lit (out.length + [fv j].length) = true := room_of (t := .lit) (by show (out.length + 1) * 24 ≤ _; omega)
    cases hf : litP isNameS numV names l j with
    | err j1 e =>
      rw [hf] at hs hR
      rw [listV, hf] at hR
      have he := errN_lit _ _ _ hf
      refine ⟨2, ?_⟩
      rw [cordonref_Reader_Con_I3_eq]
      refine bt rfl ((fun h => ⟨h, h⟩) ⟨_, _, _, hs, hroom, _, _, _, read_more2_ok j1 e, ?_⟩)
      rw [more2, if_neg he, cordonref_Reader_Con_I3_eq]
      exact bf rfl hR
    | ok y j1 =>
      rw [hf] at hs hR
      have ha := adv_lit _ _ _ hf
      rw [listV, hf] at hR
      have hR : R (.agg [dI kd, .sl .int ([] : List Int), .sl .int ([] : List Int), dI 0, dS ([] : List (List Int)), .sl .lit (if takeB l ⟨#[44]⟩ j1 = true then listV l (litP isNameS numV names l) fv fuel (out ++ [fv j]) (j1 + 1) else out ++ [fv j])]) (hpR l en goal mvar pv pc (listR l (litP isNameS numV names l) (fuel + 1) (out ++ [y]) j1).st.1 (listR l (litP isNameS numV names l) (fuel + 1) (out ++ [y]) j1).st.2) := hR
      rw [listR] at hR
      cases hb : takeB l ⟨#[44]⟩ j1 with
      | true =>
        have hlt := takeB_lt hb
        rw [hb, if_pos rfl, if_pos rfl] at hR
        have hst : ∀ (a b : List LitD), (((litP isNameS numV names l (j1 + 1)).bind fun x j => listR l (litP isNameS numV names l) fuel (a ++ [x]) j)).st = (((litP isNameS numV names l (j1 + 1)).bind fun x j => listR l (litP isNameS numV names l) fuel (b ++ [x]) j)).st := fun a b => list_st _ _
        obtain ⟨n, hn⟩ := read_lits_run hfv hl fuel (out ++ [fv j]) (j1 + 1) (by omega) (by omega) (by rw [List.length_append]; show _ + 1 ≤ _; omega) (by rw [hst (out ++ [fv j]) (out ++ [y])]; exact hR)
        refine ⟨n + 1, ?_⟩
        rw [cordonref_Reader_Con_I3_eq]
        refine bt rfl ((fun h => ⟨h, h⟩) ⟨_, _, _, hs, hroom, _, _, _, read_more2_ok j1 0, ?_⟩)
        rw [more2, if_pos rfl, if_pos hb]
        exact hn
      | false =>
        rw [hb, if_neg (by decide), if_neg (by decide), needP, needP] at hR
        refine ⟨2, ?_⟩
        rw [cordonref_Reader_Con_I3_eq]
        refine bt rfl ((fun h => ⟨h, h⟩) ⟨_, _, _, hs, hroom, _, _, _, read_more2_ok j1 0, ?_⟩)
        rw [more2, if_pos rfl, if_neg (by rw [hb]; decide)]
        cases hc : takeB l ⟨#[93]⟩ j1 with
        | true =>
          rw [hc, if_pos rfl] at hR
          rw [if_pos rfl, cordonref_Reader_Con_I3_eq]
          exact bf rfl hR
        | false =>
          rw [hc, if_neg (by decide)] at hR
          rw [if_neg (by decide), cordonref_Reader_Con_I3_eq]
          exact bf rfl hR
theorem read_lits_in (hd : DigOk l) (hN : ∀ s, mget .str .int s names = ixName s pv 0) (j : Nat) (er : Int) : ∃ x : List LitD, (l.length * 32 ≤ 140737488355328 → ∀ (kd : Int) (R : D → List (Nat × HObj) → Prop), R (.agg [dI kd, .sl .int ([] : List Int), .sl .int ([] : List Int), dI 0, dS ([] : List (List Int)), .sl .lit x]) (hpR l en goal mvar pv pc (stR (listP l (litP isNameS numV names l) j) j er).1 (stR (listP l (litP isNameS numV names l) j) j er).2) →
    ∃ (m1 : Int) (m2 : Int) (m3 : Bool), SatH Tryz.prog f_cordonref_Reader_More [.ptr 1000 0, dB true] (hpR l en goal mvar pv pc j er) (dB m3) (hpSr l en goal mvar pv pc m1 m2) ∧ ∃ n, cordonref_Reader_Con_I3 R n m3 0 ([] : List Int) ([] : List Int) 0 ([] : List (List Int)) ([] : List LitD) kd ([] : List Int) ([] : List Int) 0 l m1 en m2 goal mvar pv pc ([] : List (List Int)) ([] : List LitD)) ∧
    (er = 0 → ∀ ys k, listP l (litP isNameS numV names l) j = .ok ys k → x = ys) ∧ x.length ≤ l.length + 2 := by
  by_cases he : er = 0
  · subst he
    have hc : ∀ i, ∃ x, SatH Tryz.prog f_cordonref_Reader_Lit [.ptr 1000 0] (hpR l en goal mvar pv pc i 0) (dL x) (hpR l en goal mvar pv pc (litP isNameS numV names l i).st.1 (litP isNameS numV names l i).st.2) ∧ ∀ y k, litP isNameS numV names l i = .ok y k → x = y := fun i => by
      obtain ⟨x, h1, h2⟩ := read_lit_ok (l := l) (en := en) (goal := goal) (mvar := mvar) (pv := pv) (pc := pc) hd hN i 0
      rw [stR, if_pos rfl] at h1
      exact ⟨x, h1, h2 rfl⟩
    obtain ⟨fv, hfv⟩ := Classical.axiomOfChoice hc
    refine ⟨(if takeB l ⟨#[91]⟩ j = true then (if takeB l ⟨#[93]⟩ (j + 1) = true then [] else listV l (litP isNameS numV names l) fv (l.length + 1) [] (j + 1)) else []), fun hl kd R hR => ?_, fun _ ys k h => ?_, ?_⟩
    · rw [stR, if_pos rfl, listP_more1] at hR
      refine ⟨_, _, _, read_more1_ok j 0, ?_⟩
      rw [more1, if_pos rfl]
      cases h1 : takeB l ⟨#[91]⟩ j with
      | false =>
        rw [h1, if_neg (by decide), if_neg (by decide)] at hR
        rw [if_neg (by decide)]
        exact ⟨1, by rw [cordonref_Reader_Con_I3_eq]; exact bf rfl hR⟩
      | true =>
        have hlt := takeB_lt h1
        rw [h1, if_pos rfl, if_pos rfl] at hR
        rw [if_pos rfl]
        cases h2 : takeB l ⟨#[93]⟩ (j + 1) with
        | true =>
          rw [h2, if_pos rfl, if_pos rfl] at hR
          rw [if_pos rfl]
          exact ⟨1, by rw [cordonref_Reader_Con_I3_eq]; exact bf rfl hR⟩
        | false =>
          rw [h2, if_neg (by decide), if_neg (by decide)] at hR
          rw [if_neg (by decide)]
          exact read_lits_run (fun i => (hfv i).1) hl (l.length + 1) [] (j + 1) hlt (by omega) (Nat.zero_le _) hR
    · rw [listP_more1] at h
      split at h
      · rename_i h1
        rw [if_pos h1]
        split at h
        · rename_i h2
          rw [if_pos h2]; injection h
        · rename_i h2
          rw [if_neg h2]
          exact listV_ok (fun i => (hfv i).2) _ _ _ _ _ h
      · cases h
    · split
      · split
        · exact Nat.zero_le _
        · have := listV_len (l := l) (f := litP isNameS numV names l) (fv := fv) (l.length + 1) [] (j + 1); simpa using this
      · exact Nat.zero_le _
  · refine ⟨[], fun hl kd R hR => ?_, fun h => absurd h he, Nat.zero_le _⟩
    rw [stR, if_neg he] at hR
    refine ⟨_, _, _, read_more1_ok j er, 1, ?_⟩
    rw [more1, if_neg he, cordonref_Reader_Con_I3_eq]
    exact bf rfl hR
end
end Go.Proofs.YtogdmcebojiojaaGreatDoor

/- The reader's constraints: printed by gen_pread7.py. -/
namespace Go.Proofs.YtogdmcebojiojaaGreatDoor
open Go.RowKit
set_option linter.unusedVariables false
set_option linter.unusedSimpArgs false

section
variable {l : List Tok} {en goal mvar : Int} {pv : List VarD} {pc : List ConD} {names : List (ByteArray × Int)}
theorem conP_eq {j : Nat} : conP isNameS numV names l j = (wordR l conW j).bind fun o j => conB isNameS numV names l (1 + o) j := by
  unfold conP
  have := wordP_shift (l := l) (ss := conW) (j := j) 0
  rw [show (1 : Int) = 0 + 1 from rfl, this]
  unfold wordR
  cases wordP l conW 0 j <;> rfl
theorem errN_some : ∀ (n : Nat) (acc : List Int), ErrN (someP isNameS names l n acc)
  | 0, acc => fun i j e h => by cases h
  | n + 1, acc => fun i j e h => by
    rw [someP] at h
    exact errN_bind (errN_v (isN := isNameS) (names := names) (l := l)) (fun x => errN_some n _) _ _ _ h
theorem ans_some {n : Nat} {acc : List Int} {v : Int} {vs : List Int} {j : Nat} {er : Int} {s s' : Nat × Int} (h1 : Ans (vP isNameS names l j) j er v s) (h2 : Ans (someP isNameS names l n (acc ++ [v]) s.1) s.1 s.2 vs s') : Ans (someP isNameS names l (n + 1) acc j) j er vs s' := by
  rw [someP]; exact Ans.bind (fun i e h => errN_v _ _ _ h) h1 h2
theorem read_vs_a (hN : ∀ s, mget .str .int s names = ixName s pv 0) (j : Nat) (er : Int) : ∃ x s, SatH Tryz.prog f_cordonref_Reader_Vs [.ptr 1000 0] (hpR l en goal mvar pv pc j er) (.sl .int x) (hpR l en goal mvar pv pc s.1 s.2) ∧ Ans (listP l (vP isNameS names l) j) j er x s ∧ x.length ≤ l.length + 2 :=
  let ⟨x, h1, h2, h3⟩ := read_vs_bd hN j er
  ⟨x, _, h1, ⟨rfl, h2⟩, h3⟩
theorem read_ks_a (hd : DigOk l) (j : Nat) (er : Int) : ∃ x s, SatH Tryz.prog f_cordonref_Reader_Ks [.ptr 1000 0] (hpR l en goal mvar pv pc j er) (.sl .int x) (hpR l en goal mvar pv pc s.1 s.2) ∧ Ans (listP l (kP numV l) j) j er x s ∧ x.length ≤ l.length + 2 :=
  let ⟨x, h1, h2, h3⟩ := read_ks_bd hd j er
  ⟨x, _, h1, ⟨rfl, h2⟩, h3⟩
theorem read_word_a {ss : List ByteArray} (hne : ∀ s ∈ ss, s ≠ ⟨#[]⟩) (hn0 : 0 < ss.length) (j : Nat) (er : Int) : ∃ (x : Int) (s : Nat × Int), SatH Tryz.prog f_cordonref_Reader_Word [.ptr 1000 0, .sl .str ss] (hpR l en goal mvar pv pc j er) (dI x) (hpR l en goal mvar pv pc s.1 s.2) ∧ Ans (wordR l ss j) j er x s ∧ 0 ≤ x ∧ x < ss.length :=
  let ⟨x, h1, h2, h3, h4⟩ := read_word_b hne hn0 j er
  ⟨x, _, h1, ⟨rfl, h2⟩, h3, h4⟩
theorem read_rows_a (hd : DigOk l) (j : Nat) (er : Int) : ∃ (x : List (List Int)) (s : Nat × Int), (l.length * 32 ≤ 140737488355328 → ∀ (kd : Int) (xs : List Int) (R : D → List (Nat × HObj) → Prop), R (.agg [dI kd, .sl .int xs, .sl .int ([] : List Int), dI 0, dS x, .sl .lit ([] : List LitD)]) (hpR l en goal mvar pv pc s.1 s.2) →
    ∃ (m1 : Int) (m2 : Int) (m3 : Bool), SatH Tryz.prog f_cordonref_Reader_More [.ptr 1000 0, dB true] (hpR l en goal mvar pv pc j er) (dB m3) (hpSr l en goal mvar pv pc m1 m2) ∧ ∃ n, cordonref_Reader_Con_I1 R n m3 0 ([] : List Int) ([] : List Int) 0 ([] : List (List Int)) ([] : List LitD) kd xs ([] : List Int) 0 l m1 en m2 goal mvar pv pc ([] : List (List Int)) ([] : List LitD)) ∧ Ans (listP l (listP l (kP numV l)) j) j er x s :=
  let ⟨x, h1, h2, _⟩ := read_rows_in (en := en) (goal := goal) (mvar := mvar) (pv := pv) (pc := pc) hd j er
  ⟨x, _, h1, rfl, h2⟩
theorem read_lits_a (hd : DigOk l) (hN : ∀ s, mget .str .int s names = ixName s pv 0) (j : Nat) (er : Int) : ∃ (x : List LitD) (s : Nat × Int), (l.length * 32 ≤ 140737488355328 → ∀ (kd : Int) (R : D → List (Nat × HObj) → Prop), R (.agg [dI kd, .sl .int ([] : List Int), .sl .int ([] : List Int), dI 0, dS ([] : List (List Int)), .sl .lit x]) (hpR l en goal mvar pv pc s.1 s.2) →
    ∃ (m1 : Int) (m2 : Int) (m3 : Bool), SatH Tryz.prog f_cordonref_Reader_More [.ptr 1000 0, dB true] (hpR l en goal mvar pv pc j er) (dB m3) (hpSr l en goal mvar pv pc m1 m2) ∧ ∃ n, cordonref_Reader_Con_I3 R n m3 0 ([] : List Int) ([] : List Int) 0 ([] : List (List Int)) ([] : List LitD) kd ([] : List Int) ([] : List Int) 0 l m1 en m2 goal mvar pv pc ([] : List (List Int)) ([] : List LitD)) ∧ Ans (listP l (litP isNameS numV names l) j) j er x s :=
  let ⟨x, h1, h2, _⟩ := read_lits_in (en := en) (goal := goal) (mvar := mvar) (pv := pv) (pc := pc) hd hN j er
  ⟨x, _, h1, rfl, h2⟩
theorem read_con_ok (hd : DigOk l) (hN : ∀ s, mget .str .int s names = ixName s pv 0) (j : Nat) (er : Int) : SatR l en goal mvar pv pc f_cordonref_Reader_Con [.ptr 1000 0] dC (conP isNameS numV names l j) j er := by
  obtain ⟨xw, s1, h1, a1, b1, b2⟩ := read_word_a (l := l) (en := en) (goal := goal) (mvar := mvar) (pv := pv) (pc := pc) (ss := conW) (by decide) (by decide) j er
  have hlen : (conW.length : Int) = 10 := rfl
  have hk : xw = 0 ∨ xw = 1 ∨ xw = 2 ∨ xw = 3 ∨ xw = 4 ∨ xw = 5 ∨ xw = 6 ∨ xw = 7 ∨ xw = 8 ∨ xw = 9 := by omega
  clear hlen b1 b2
  rcases hk with rfl | rfl | rfl | rfl | rfl | rfl | rfl | rfl | rfl | rfl
  · obtain ⟨x2, s2, h2, a2, l2⟩ := read_ks_a (l := l) (en := en) (goal := goal) (mvar := mvar) (pv := pv) (pc := pc) hd s1.1 s1.2
    obtain ⟨x3, s3, h3, a3, l3⟩ := read_vs_a (l := l) (en := en) (goal := goal) (mvar := mvar) (pv := pv) (pc := pc) hN s2.1 s2.2
    obtain ⟨x4, s4, h4, a4⟩ := (read_k_ok (en := en) (goal := goal) (mvar := mvar) (pv := pv) (pc := pc) hd s3.1 s3.2).ans
    refine SatR.of (x := (⟨1, x3, x2, x4, [], []⟩ : ConD)) (s := s4) (cordonref_Reader_Con_sat _ _ _ _ _ _ _ _ fun ok ok2 => ?_) ?_
    · rw [cordonref_Reader_Con_eq]
      refine ⟨_, _, _, h1, ?_⟩
      rw [show w64 (1 + 0) = 1 from w64_eq (by omega) (by omega)]
      exact dt (by decide) (⟨_, _, _, h2, _, _, _, h3, _, _, _, h4, rfl, rfl⟩)
    · rw [conP_eq]
      refine Ans.bind (fun i e h => errN_word _ _ _ h) a1 ?_
      show Ans (conB isNameS numV names l 1 s1.1) _ _ _ _
      rw [conB, if_pos (by decide)]
      exact Ans.bind (fun i e h => (errN_list errN_k) _ _ _ h) a2 (Ans.bind (fun i e h => (errN_list errN_v) _ _ _ h) a3 (Ans.bind (fun i e h => (errN_k) _ _ _ h) a4 (Ans.pure)))
  · obtain ⟨x2, s2, h2, a2, l2⟩ := read_ks_a (l := l) (en := en) (goal := goal) (mvar := mvar) (pv := pv) (pc := pc) hd s1.1 s1.2
    obtain ⟨x3, s3, h3, a3, l3⟩ := read_vs_a (l := l) (en := en) (goal := goal) (mvar := mvar) (pv := pv) (pc := pc) hN s2.1 s2.2
    obtain ⟨x4, s4, h4, a4⟩ := (read_k_ok (en := en) (goal := goal) (mvar := mvar) (pv := pv) (pc := pc) hd s3.1 s3.2).ans
    refine SatR.of (x := (⟨2, x3, x2, x4, [], []⟩ : ConD)) (s := s4) (cordonref_Reader_Con_sat _ _ _ _ _ _ _ _ fun ok ok2 => ?_) ?_
    · rw [cordonref_Reader_Con_eq]
      refine ⟨_, _, _, h1, ?_⟩
      rw [show w64 (1 + 1) = 2 from w64_eq (by omega) (by omega)]
      exact df (by decide) (dt (by decide) (⟨_, _, _, h2, _, _, _, h3, _, _, _, h4, rfl, rfl⟩))
    · rw [conP_eq]
      refine Ans.bind (fun i e h => errN_word _ _ _ h) a1 ?_
      show Ans (conB isNameS numV names l 2 s1.1) _ _ _ _
      rw [conB, if_pos (by decide)]
      exact Ans.bind (fun i e h => (errN_list errN_k) _ _ _ h) a2 (Ans.bind (fun i e h => (errN_list errN_v) _ _ _ h) a3 (Ans.bind (fun i e h => (errN_k) _ _ _ h) a4 (Ans.pure)))
  · obtain ⟨x2, s2, h2, a2, l2⟩ := read_ks_a (l := l) (en := en) (goal := goal) (mvar := mvar) (pv := pv) (pc := pc) hd s1.1 s1.2
    obtain ⟨x3, s3, h3, a3, l3⟩ := read_vs_a (l := l) (en := en) (goal := goal) (mvar := mvar) (pv := pv) (pc := pc) hN s2.1 s2.2
    obtain ⟨x4, s4, h4, a4⟩ := (read_k_ok (en := en) (goal := goal) (mvar := mvar) (pv := pv) (pc := pc) hd s3.1 s3.2).ans
    refine SatR.of (x := (⟨3, x3, x2, x4, [], []⟩ : ConD)) (s := s4) (cordonref_Reader_Con_sat _ _ _ _ _ _ _ _ fun ok ok2 => ?_) ?_
    · rw [cordonref_Reader_Con_eq]
      refine ⟨_, _, _, h1, ?_⟩
      rw [show w64 (1 + 2) = 3 from w64_eq (by omega) (by omega)]
      exact df (by decide) (df (by decide) (dt (by decide) (⟨_, _, _, h2, _, _, _, h3, _, _, _, h4, rfl, rfl⟩)))
    · rw [conP_eq]
      refine Ans.bind (fun i e h => errN_word _ _ _ h) a1 ?_
      show Ans (conB isNameS numV names l 3 s1.1) _ _ _ _
      rw [conB, if_pos (by decide)]
      exact Ans.bind (fun i e h => (errN_list errN_k) _ _ _ h) a2 (Ans.bind (fun i e h => (errN_list errN_v) _ _ _ h) a3 (Ans.bind (fun i e h => (errN_k) _ _ _ h) a4 (Ans.pure)))
  · obtain ⟨x2, s2, h2, a2, l2⟩ := read_vs_a (l := l) (en := en) (goal := goal) (mvar := mvar) (pv := pv) (pc := pc) hN s1.1 s1.2
    refine SatR.of (x := (⟨4, x2, [], 0, [], []⟩ : ConD)) (s := s2) (cordonref_Reader_Con_sat _ _ _ _ _ _ _ _ fun ok ok2 => ?_) ?_
    · rw [cordonref_Reader_Con_eq]
      refine ⟨_, _, _, h1, ?_⟩
      rw [show w64 (1 + 3) = 4 from w64_eq (by omega) (by omega)]
      exact df (by decide) (df (by decide) (df (by decide) (dt (by decide) (⟨_, _, _, h2, rfl, rfl⟩))))
    · rw [conP_eq]
      refine Ans.bind (fun i e h => errN_word _ _ _ h) a1 ?_
      show Ans (conB isNameS numV names l 4 s1.1) _ _ _ _
      rw [conB, if_neg (by decide), if_pos (by decide)]
      exact Ans.bind (fun i e h => (errN_list errN_v) _ _ _ h) a2 (Ans.pure)
  · obtain ⟨x2, s2, h2, a2, l2⟩ := read_ks_a (l := l) (en := en) (goal := goal) (mvar := mvar) (pv := pv) (pc := pc) hd s1.1 s1.2
    obtain ⟨x3, s3, h3, a3⟩ := (read_v_ok (l := l) (en := en) (goal := goal) (mvar := mvar) (pv := pv) (pc := pc) hN s2.1 s2.2).ans
    obtain ⟨x4, s4, h4, a4⟩ := (read_v_ok (l := l) (en := en) (goal := goal) (mvar := mvar) (pv := pv) (pc := pc) hN s3.1 s3.2).ans
    refine SatR.of (x := (⟨5, [x3, x4], x2, 0, [], []⟩ : ConD)) (s := s4) (cordonref_Reader_Con_sat _ _ _ _ _ _ _ _ fun ok ok2 => ?_) ?_
    · rw [cordonref_Reader_Con_eq]
      refine ⟨_, _, _, h1, ?_⟩
      rw [show w64 (1 + 4) = 5 from w64_eq (by omega) (by omega)]
      exact df (by decide) (df (by decide) (df (by decide) (df (by decide) (dt (by decide) (⟨_, _, _, h2, _, _, _, h3, _, _, _, h4, rfl, rfl⟩)))))
    · rw [conP_eq]
      refine Ans.bind (fun i e h => errN_word _ _ _ h) a1 ?_
      show Ans (conB isNameS numV names l 5 s1.1) _ _ _ _
      rw [conB, if_neg (by decide), if_neg (by decide), if_pos (by decide)]
      exact Ans.bind (fun i e h => (errN_list errN_k) _ _ _ h) a2 (Ans.bind (fun i e h => errN_some _ _ _ _ _ h) (ans_some a3 (ans_some a4 Ans.pure)) (Ans.pure))
  · obtain ⟨x2, s2, h2, a2, l2⟩ := read_vs_a (l := l) (en := en) (goal := goal) (mvar := mvar) (pv := pv) (pc := pc) hN s1.1 s1.2
    obtain ⟨x3, s3, h3, a3⟩ := read_rows_a (en := en) (goal := goal) (mvar := mvar) (pv := pv) (pc := pc) hd s2.1 s2.2
    refine SatR.of (x := (⟨6, x2, [], 0, x3, []⟩ : ConD)) (s := s3) (cordonref_Reader_Con_sat _ _ _ _ _ _ _ _ fun ok ok2 => ?_) ?_
    · rw [cordonref_Reader_Con_eq]
      refine ⟨_, _, _, h1, ?_⟩
      rw [show w64 (1 + 5) = 6 from w64_eq (by omega) (by omega)]
      exact df (by decide) (df (by decide) (df (by decide) (df (by decide) (df (by decide) (dt (by decide) (⟨_, _, _, h2, h3 (rtoks_le ok2) _ _ _ ⟨rfl, rfl⟩⟩))))))
    · rw [conP_eq]
      refine Ans.bind (fun i e h => errN_word _ _ _ h) a1 ?_
      show Ans (conB isNameS numV names l 6 s1.1) _ _ _ _
      rw [conB, if_neg (by decide), if_neg (by decide), if_neg (by decide), if_pos (by decide)]
      exact Ans.bind (fun i e h => (errN_list errN_v) _ _ _ h) a2 (Ans.bind (fun i e h => (errN_list (errN_list errN_k)) _ _ _ h) a3 (Ans.pure))
  · obtain ⟨x2, s2, h2, a2⟩ := (read_v_ok (l := l) (en := en) (goal := goal) (mvar := mvar) (pv := pv) (pc := pc) hN s1.1 s1.2).ans
    obtain ⟨x3, s3, h3, a3⟩ := (read_v_ok (l := l) (en := en) (goal := goal) (mvar := mvar) (pv := pv) (pc := pc) hN s2.1 s2.2).ans
    obtain ⟨x4, s4, h4, a4⟩ := (read_v_ok (l := l) (en := en) (goal := goal) (mvar := mvar) (pv := pv) (pc := pc) hN s3.1 s3.2).ans
    refine SatR.of (x := (⟨7, [x2, x3, x4], [], 0, [], []⟩ : ConD)) (s := s4) (cordonref_Reader_Con_sat _ _ _ _ _ _ _ _ fun ok ok2 => ?_) ?_
    · rw [cordonref_Reader_Con_eq]
      refine ⟨_, _, _, h1, ?_⟩
      rw [show w64 (1 + 6) = 7 from w64_eq (by omega) (by omega)]
      exact df (by decide) (df (by decide) (df (by decide) (df (by decide) (df (by decide) (df (by decide) (dt (by decide) (⟨_, _, _, h2, _, _, _, h3, _, _, _, h4, rfl, rfl⟩)))))))
    · rw [conP_eq]
      refine Ans.bind (fun i e h => errN_word _ _ _ h) a1 ?_
      show Ans (conB isNameS numV names l 7 s1.1) _ _ _ _
      rw [conB, if_neg (by decide), if_neg (by decide), if_neg (by decide), if_neg (by decide), if_pos (by decide)]
      exact Ans.bind (fun i e h => errN_some _ _ _ _ _ h) (ans_some a2 (ans_some a3 (ans_some a4 Ans.pure))) (Ans.pure)
  · obtain ⟨x2, s2, h2, a2⟩ := (read_v_ok (l := l) (en := en) (goal := goal) (mvar := mvar) (pv := pv) (pc := pc) hN s1.1 s1.2).ans
    obtain ⟨x3, s3, h3, a3, l3⟩ := read_vs_a (l := l) (en := en) (goal := goal) (mvar := mvar) (pv := pv) (pc := pc) hN s2.1 s2.2
    refine SatR.of (x := (⟨8, x2 :: x3, [], 0, [], []⟩ : ConD)) (s := s3) (cordonref_Reader_Con_sat _ _ _ _ _ _ _ _ fun ok ok2 => ?_) ?_
    · rw [cordonref_Reader_Con_eq]
      refine ⟨_, _, _, h1, ?_⟩
      rw [show w64 (1 + 7) = 8 from w64_eq (by omega) (by omega)]
      exact df (by decide) (df (by decide) (df (by decide) (df (by decide) (df (by decide) (df (by decide) (df (by decide) (dt (by decide) (⟨_, _, _, h2, _, _, _, h3, room_of (t := .int) (by have := rtoks_le ok2; show (1 + x3.length) * 8 ≤ _; omega), rfl, rfl⟩))))))))
    · rw [conP_eq]
      refine Ans.bind (fun i e h => errN_word _ _ _ h) a1 ?_
      show Ans (conB isNameS numV names l 8 s1.1) _ _ _ _
      rw [conB, if_neg (by decide), if_neg (by decide), if_neg (by decide), if_neg (by decide), if_neg (by decide), if_pos (by decide)]
      exact Ans.bind (fun i e h => (errN_v) _ _ _ h) a2 (Ans.bind (fun i e h => (errN_list errN_v) _ _ _ h) a3 (Ans.pure))
  · obtain ⟨x2, s2, h2, a2⟩ := read_lits_a (en := en) (goal := goal) (mvar := mvar) (pv := pv) (pc := pc) hd hN s1.1 s1.2
    refine SatR.of (x := (⟨9, [], [], 0, [], x2⟩ : ConD)) (s := s2) (cordonref_Reader_Con_sat _ _ _ _ _ _ _ _ fun ok ok2 => ?_) ?_
    · rw [cordonref_Reader_Con_eq]
      refine ⟨_, _, _, h1, ?_⟩
      rw [show w64 (1 + 8) = 9 from w64_eq (by omega) (by omega)]
      exact df (by decide) (df (by decide) (df (by decide) (df (by decide) (df (by decide) (df (by decide) (df (by decide) (df (by decide) (dt (by decide) (h2 (rtoks_le ok2) _ _ ⟨rfl, rfl⟩)))))))))
    · rw [conP_eq]
      refine Ans.bind (fun i e h => errN_word _ _ _ h) a1 ?_
      show Ans (conB isNameS numV names l 9 s1.1) _ _ _ _
      rw [conB, if_neg (by decide), if_neg (by decide), if_neg (by decide), if_neg (by decide), if_neg (by decide), if_neg (by decide), if_pos (by decide)]
      exact Ans.bind (fun i e h => (errN_list errN_lit) _ _ _ h) a2 (Ans.pure)
  · obtain ⟨x2, s2, h2, a2⟩ := (read_v_ok (l := l) (en := en) (goal := goal) (mvar := mvar) (pv := pv) (pc := pc) hN s1.1 s1.2).ans
    obtain ⟨x3, s3, h3, a3⟩ := (read_lit_ok (en := en) (goal := goal) (mvar := mvar) (pv := pv) (pc := pc) hd hN s2.1 s2.2).ans
    refine SatR.of (x := (⟨10, [x2], [], 0, [], [x3]⟩ : ConD)) (s := s3) (cordonref_Reader_Con_sat _ _ _ _ _ _ _ _ fun ok ok2 => ?_) ?_
    · rw [cordonref_Reader_Con_eq]
      refine ⟨_, _, _, h1, ?_⟩
      rw [show w64 (1 + 9) = 10 from w64_eq (by omega) (by omega)]
      exact df (by decide) (df (by decide) (df (by decide) (df (by decide) (df (by decide) (df (by decide) (df (by decide) (df (by decide) (df (by decide) (dt (by decide) (⟨_, _, _, h2, (fun h => ⟨h, h⟩) ⟨_, _, _, h3, room_of (t := .lit) (by show (0 + 1) * 24 ≤ 140737488355328; omega), rfl, rfl⟩⟩))))))))))
    · rw [conP_eq]
      refine Ans.bind (fun i e h => errN_word _ _ _ h) a1 ?_
      show Ans (conB isNameS numV names l 10 s1.1) _ _ _ _
      rw [conB, if_neg (by decide), if_neg (by decide), if_neg (by decide), if_neg (by decide), if_neg (by decide), if_neg (by decide), if_neg (by decide)]
      exact Ans.bind (fun i e h => errN_some _ _ _ _ _ h) (ans_some a2 Ans.pure) (Ans.bind (fun i e h => (errN_lit) _ _ _ h) a3 Ans.pure)
end
end Go.Proofs.YtogdmcebojiojaaGreatDoor

/- The document's parser: a whole text: printed by gen_pread8.py. -/
namespace Go.Proofs.YtogdmcebojiojaaGreatDoor
open Go.RowKit
set_option linter.unusedVariables false
set_option linter.unusedSimpArgs false

def goW : List ByteArray := [⟨#[97, 110, 121]⟩, ⟨#[108, 101, 97, 115, 116]⟩, ⟨#[109, 111, 115, 116]⟩]
/-- What is answered of a model that was read. -/
def finM (m : MdlD) : MdlD × Int × Int := if checkM m = 0 then (m, 0, 0) else (mEmpty, 0, checkM m)
def parseT (l : List Tok) (en : Int) : MdlD × Int × Int := match modelP isNameS numV l with
  | .ok (m, _) _ => finM m
  | .err j e => (mEmpty, hereP l en j, e)
theorem lkey_str : LKey .str := fun a b => decide_eq_true_iff
theorem ixName_snoc {s : ByteArray} {v : VarD} : ∀ (vs : List VarD) (i : Int), ixName s (vs ++ [v]) i = match ixName s vs i with
    | some n => some n
    | none => if v.name = s then some (i + vs.length) else none
  | [], i => by
    simp only [List.nil_append, ixName]
    split
    · rw [List.length_nil]; congr 1; omega
    · rfl
  | u :: r, i => by
    rw [List.cons_append, ixName, ixName]
    split
    · rfl
    · rw [ixName_snoc r (i + 1)]
      cases ixName s r (i + 1) with
      | some n => rfl
      | none =>
        simp only [List.length_cons]
        split
        · congr 1; omega
        · rfl
theorem names_step {vs : List VarD} {ns : List (ByteArray × Int)} {v : VarD} (hN : ∀ s, mget .str .int s ns = ixName s vs 0) (s : ByteArray) : mget .str .int s (addName ns v.name vs.length) = ixName s (vs ++ [v]) 0 := by
  rw [ixName_snoc, ← hN s, addName, mhas]
  cases hm : mget .str .int v.name ns with
  | some n =>
    rw [if_pos Option.isSome_some]
    cases hs : mget .str .int s ns with
    | some k => rfl
    | none =>
      simp only
      rw [if_neg]
      intro e
      rw [e, hs] at hm; cases hm
  | none =>
    rw [if_neg (by decide)]
    by_cases e : s = v.name
    · subst e
      rw [mget_same (kt := .str) (vt := .int) lkey_str, hm]
      show some (vs.length : Int) = if _ then some (0 + (vs.length : Int)) else none
      rw [if_pos rfl, Int.zero_add]
    · rw [mget_other (kt := .str) (vt := .int) lkey_str e]
      cases mget .str .int s ns with
      | some k => rfl
      | none => simp only; rw [if_neg fun x => e x.symm]
section
variable {l : List Tok} {en : Int} {pv : List VarD} {names : List (ByteArray × Int)} {R : D → Prop}
theorem read_bad (hl : l.length * 32 ≤ 140737488355328) {j : Nat} {er : Int} (he : er ≠ 0) {pc : List ConD} (hR : R (dR (mEmpty, hereP l en j, er))) : ∃ n, cordonref_ParseOf_I2 R l n ([] : List VarD) ([] : List ConD) 0 0 l (j : Int) en er 0 0 pv pc := by
  refine ⟨1, ?_⟩
  rw [cordonref_ParseOf_I2_eq]
  refine ⟨_, read_text_ok j er, ?_⟩
  rw [rText_bad he]
  refine df (by decide) ⟨_, _, read_need_ok (s := ⟨#[115, 111, 108, 118, 101]⟩) (by decide) j er, ?_⟩
  rw [need_st, if_neg he]
  obtain ⟨xw, sw, hw, aw, _, _⟩ := read_word_a (l := l) (en := en) (goal := 0) (mvar := 0) (pv := pv) (pc := pc) (ss := goW) (by decide) (by decide) j er
  have hs : sw = (j, er) := aw.1.trans (if_neg he)
  subst hs
  refine ⟨_, _, _, hw, df he ⟨_, _, read_need_ok (s := ⟨#[59]⟩) (by decide) j er, ?_⟩⟩
  rw [need_st, if_neg he]
  by_cases hlt : j < l.length
  · refine dt (by omega) ⟨_, read_wrong_ok j er 1, ?_⟩
    rw [if_neg he]
    exact dnt he ⟨⟨_, read_here_ok j er, (fun h => ⟨h, h⟩) hR⟩, _, read_here_ok j er, hR⟩
  · exact df (by omega) (dnt he ⟨⟨_, read_here_ok j er, (fun h => ⟨h, h⟩) hR⟩, _, read_here_ok j er, hR⟩)
theorem goalP_eq {j : Nat} : goalP isNameS l names j = (needP l [⟨#[115, 111, 108, 118, 101]⟩] j).bind fun _ j => (wordR l goW j).bind fun o j => if o = 0 then lastP l (0, 0) j else (vP isNameS names l j).bind fun v j => lastP l (o, v) j := by
  unfold goalP
  congr 1; funext _ j
  simp only [wordR, goW, wordP]
  cases h1 : takeB l ⟨#[97, 110, 121]⟩ j with
  | true => rfl
  | false =>
    cases h2 : takeB l ⟨#[108, 101, 97, 115, 116]⟩ j with
    | true => rfl
    | false =>
      cases h3 : takeB l ⟨#[109, 111, 115, 116]⟩ j with
      | true => simp only [needP, h3]; rfl
      | false => simp only [needP, h3]; rfl
theorem read_goal_ok (hl : l.length * 32 ≤ 140737488355328) (hN : ∀ s, mget .str .int s names = ixName s pv 0) {pc : List ConD} {j : Nat} (hnb : takeB l ⟨#[99, 111, 110]⟩ j = false)
    (hx : (goalP isNameS l names j).on (fun g j' => R (dR (finM ⟨pv, pc, g.1, g.2⟩))) (fun j' e => R (dR (mEmpty, hereP l en j', e)))) : cordonref_ParseOf_I2 R l 1 ([] : List VarD) ([] : List ConD) 0 0 l (j : Int) en 0 0 0 pv pc := by
  rw [cordonref_ParseOf_I2_eq]
  refine ⟨_, read_text_ok j 0, df (fun e => by rw [(rText_take (by decide)).1 e] at hnb; cases hnb) ⟨_, _, read_need_ok (s := ⟨#[115, 111, 108, 118, 101]⟩) (by decide) j 0, ?_⟩⟩
  rw [need_st, if_pos rfl]
  rw [goalP_eq, needP, needP] at hx
  cases hb : takeB l ⟨#[115, 111, 108, 118, 101]⟩ j with
  | false =>
    rw [hb, if_neg (by decide)] at hx
    have hR : R (dR (mEmpty, hereP l en j, 1)) := hx
    rw [if_neg (by decide)]
    obtain ⟨xw, sw, hw, aw, _, _⟩ := read_word_a (l := l) (en := en) (goal := 0) (mvar := 0) (pv := pv) (pc := pc) (ss := goW) (by decide) (by decide) j 1
    have hs : sw = (j, 1) := aw.1.trans (if_neg (by decide : (1 : Int) ≠ 0))
    subst hs
    refine ⟨_, _, _, hw, df (by decide : (1 : Int) ≠ 0) ⟨_, _, read_need_ok (s := ⟨#[59]⟩) (by decide) j 1, ?_⟩⟩
    rw [need_st, if_neg (by decide : (1 : Int) ≠ 0)]
    by_cases hlt : j < l.length
    · refine dt (by omega) ⟨_, read_wrong_ok j 1 1, ?_⟩
      rw [if_neg (by decide : (1 : Int) ≠ 0)]
      exact dnt (by decide : (1 : Int) ≠ 0) ⟨⟨_, read_here_ok j 1, (fun h => ⟨h, h⟩) hR⟩, _, read_here_ok j 1, hR⟩
    · exact df (by omega) (dnt (by decide : (1 : Int) ≠ 0) ⟨⟨_, read_here_ok j 1, (fun h => ⟨h, h⟩) hR⟩, _, read_here_ok j 1, hR⟩)
  | true =>
    rw [hb, if_pos rfl] at hx
    rw [if_pos rfl]
    simp only [Pr.bind] at hx
    generalize j + 1 = j1 at hx ⊢
    have hx : ((wordR l goW j1).bind fun o j => if o = 0 then lastP l (0, 0) j else (vP isNameS names l j).bind fun v j => lastP l (o, v) j).on (fun g j' => R (dR (finM ⟨pv, pc, g.1, g.2⟩))) (fun j' e => R (dR (mEmpty, hereP l en j', e))) := hx
    obtain ⟨xw, sw, hw, aw, b1, b2⟩ := read_word_a (l := l) (en := en) (goal := 0) (mvar := 0) (pv := pv) (pc := pc) (ss := goW) (by decide) (by decide) j1 0
    refine ⟨_, _, _, hw, ?_⟩
    have hs : sw = (wordR l goW j1).st := aw.1.trans (if_pos rfl)
    have hv := aw.2 rfl
    clear aw hw
    cases hr : wordR l goW j1 with
    | err k e =>
      rw [hr] at hx hs
      have hR : R (dR (mEmpty, hereP l en k, e)) := hx
      have he := errN_word _ _ _ hr
      have hs : sw = (k, e) := hs
      subst hs
      refine df he ⟨_, _, read_need_ok (s := ⟨#[59]⟩) (by decide) k e, ?_⟩
      rw [need_st, if_neg he]
      by_cases hlt : k < l.length
      · refine dt (by omega) ⟨_, read_wrong_ok k e 1, ?_⟩
        rw [if_neg he]
        exact dnt he ⟨⟨_, read_here_ok k e, (fun h => ⟨h, h⟩) hR⟩, _, read_here_ok k e, hR⟩
      · exact df (by omega) (dnt he ⟨⟨_, read_here_ok k e, (fun h => ⟨h, h⟩) hR⟩, _, read_here_ok k e, hR⟩)
    | ok o k =>
      rw [hr] at hx hs hv
      have hs : sw = (k, 0) := hs
      have := hv _ _ rfl
      subst hs this
      have hx : (if xw = 0 then lastP l (0, 0) k else (vP isNameS names l k).bind fun v j => lastP l (xw, v) j).on (fun g j' => R (dR (finM ⟨pv, pc, g.1, g.2⟩))) (fun j' e => R (dR (mEmpty, hereP l en j', e))) := hx
      refine dt rfl ?_
      by_cases h0 : xw = 0
      · subst h0
        rw [if_pos rfl] at hx
        refine dnf rfl ?_
        rw [lastP, needP, needP] at hx
        refine ⟨_, _, read_need_ok (s := ⟨#[59]⟩) (by decide) k 0, ?_⟩
        rw [need_st, if_pos rfl]
        cases hq : takeB l ⟨#[59]⟩ k with
        | false =>
          rw [hq, if_neg (by decide)] at hx
          rw [if_neg (by decide)]
          simp only [Pr.bind, Pr.on] at hx
          by_cases hlt : k < l.length
          · refine dt (by omega) ⟨_, read_wrong_ok k 1 1, ?_⟩
            rw [if_neg (by decide : (1 : Int) ≠ 0)]
            exact dnt (by decide : (1 : Int) ≠ 0) ⟨⟨_, read_here_ok k 1, (fun h => ⟨h, h⟩) hx⟩, _, read_here_ok k 1, hx⟩
          · exact df (by omega) (dnt (by decide : (1 : Int) ≠ 0) ⟨⟨_, read_here_ok k 1, (fun h => ⟨h, h⟩) hx⟩, _, read_here_ok k 1, hx⟩)
        | true =>
          rw [hq, if_pos rfl] at hx
          rw [if_pos rfl]
          simp only [Pr.bind] at hx
          generalize k + 1 = k at hx ⊢
          by_cases hlt : k < l.length
          · rw [if_pos hlt] at hx
            refine dt (by omega) ⟨_, read_wrong_ok k 0 1, ?_⟩
            rw [if_pos rfl]
            exact dnt (by decide) ⟨⟨_, read_here_ok k 1, (fun h => ⟨h, h⟩) hx⟩, _, read_here_ok k 1, hx⟩
          · rw [if_neg hlt] at hx
            refine df (by omega) (dnf rfl (call1 (t := .int) (cordonref_CheckModel_ok ⟨pv, pc, _, _⟩) ?_))
            simp only [Pr.on, finM] at hx
            by_cases hc : checkM ⟨pv, pc, 0, 0⟩ = 0
            · rw [if_pos hc] at hx
              refine dnf hc ?_
              rw [hc]; exact hx
            · rw [if_neg hc] at hx
              exact dnt hc hx
      · rw [if_neg h0] at hx
        obtain ⟨xv, sv, hv2, av⟩ := (read_v_ok (l := l) (en := en) (goal := xw) (mvar := 0) (pv := pv) (pc := pc) hN k 0).ans
        refine dnt h0 ⟨_, _, _, hv2, ?_⟩
        have hs2 : sv = (vP isNameS names l k).st := av.1.trans (if_pos rfl)
        have hv3 := av.2 rfl
        clear av hv2
        cases hr2 : vP isNameS names l k with
        | err k2 e =>
          rw [hr2] at hx hs2
          have hR : R (dR (mEmpty, hereP l en k2, e)) := hx
          have he := errN_v _ _ _ hr2
          have hs2 : sv = (k2, e) := hs2
          subst hs2
          refine ⟨_, _, read_need_ok (s := ⟨#[59]⟩) (by decide) k2 e, ?_⟩
          rw [need_st, if_neg he]
          by_cases hlt : k2 < l.length
          · refine dt (by omega) ⟨_, read_wrong_ok k2 e 1, ?_⟩
            rw [if_neg he]
            exact dnt he ⟨⟨_, read_here_ok k2 e, (fun h => ⟨h, h⟩) hR⟩, _, read_here_ok k2 e, hR⟩
          · exact df (by omega) (dnt he ⟨⟨_, read_here_ok k2 e, (fun h => ⟨h, h⟩) hR⟩, _, read_here_ok k2 e, hR⟩)
        | ok v k2 =>
          rw [hr2] at hx hs2 hv3
          have hs2 : sv = (k2, 0) := hs2
          have := hv3 _ _ rfl
          subst hs2 this
          have hx : (lastP l (xw, xv) k2).on (fun g j' => R (dR (finM ⟨pv, pc, g.1, g.2⟩))) (fun j' e => R (dR (mEmpty, hereP l en j', e))) := hx
          rw [lastP, needP, needP] at hx
          refine ⟨_, _, read_need_ok (s := ⟨#[59]⟩) (by decide) k2 0, ?_⟩
          rw [need_st, if_pos rfl]
          cases hq : takeB l ⟨#[59]⟩ k2 with
          | false =>
            rw [hq, if_neg (by decide)] at hx
            rw [if_neg (by decide)]
            simp only [Pr.bind, Pr.on] at hx
            by_cases hlt : k2 < l.length
            · refine dt (by omega) ⟨_, read_wrong_ok k2 1 1, ?_⟩
              rw [if_neg (by decide : (1 : Int) ≠ 0)]
              exact dnt (by decide : (1 : Int) ≠ 0) ⟨⟨_, read_here_ok k2 1, (fun h => ⟨h, h⟩) hx⟩, _, read_here_ok k2 1, hx⟩
            · exact df (by omega) (dnt (by decide : (1 : Int) ≠ 0) ⟨⟨_, read_here_ok k2 1, (fun h => ⟨h, h⟩) hx⟩, _, read_here_ok k2 1, hx⟩)
          | true =>
            rw [hq, if_pos rfl] at hx
            rw [if_pos rfl]
            simp only [Pr.bind] at hx
            generalize k2 + 1 = k at hx ⊢
            by_cases hlt : k < l.length
            · rw [if_pos hlt] at hx
              refine dt (by omega) ⟨_, read_wrong_ok k 0 1, ?_⟩
              rw [if_pos rfl]
              exact dnt (by decide) ⟨⟨_, read_here_ok k 1, (fun h => ⟨h, h⟩) hx⟩, _, read_here_ok k 1, hx⟩
            · rw [if_neg hlt] at hx
              refine df (by omega) (dnf rfl (call1 (t := .int) (cordonref_CheckModel_ok ⟨pv, pc, _, _⟩) ?_))
              simp only [Pr.on, finM] at hx
              by_cases hc : checkM ⟨pv, pc, xw, xv⟩ = 0
              · rw [if_pos hc] at hx
                refine dnf hc ?_
                rw [hc]; exact hx
              · rw [if_neg hc] at hx
                exact dnt hc hx
theorem errN_need {s : ByteArray} : ErrN (needP l [s]) := fun i j e h => by
  rw [needP, needP] at h
  split at h
  · cases h
  · injection h with _ h; subst h; decide
theorem errN_conB {o : Int} : ErrN (conB isNameS numV names l o) := fun i j e h => by
  unfold conB at h
  split at h
  · exact errN_bind (errN_list errN_k) (fun _ => errN_bind (errN_list errN_v) fun _ => errN_bind errN_k fun _ => errN_ok (f := fun j => j)) _ _ _ h
  split at h
  · exact errN_bind (errN_list errN_v) (fun _ => errN_ok (f := fun j => j)) _ _ _ h
  split at h
  · exact errN_bind (errN_list errN_k) (fun _ => errN_bind (errN_some 2 []) fun _ => errN_ok (f := fun j => j)) _ _ _ h
  split at h
  · exact errN_bind (errN_list errN_v) (fun _ => errN_bind (errN_list (errN_list errN_k)) fun _ => errN_ok (f := fun j => j)) _ _ _ h
  split at h
  · exact errN_bind (errN_some 3 []) (fun _ => errN_ok (f := fun j => j)) _ _ _ h
  split at h
  · exact errN_bind errN_v (fun _ => errN_bind (errN_list errN_v) fun _ => errN_ok (f := fun j => j)) _ _ _ h
  split at h
  · exact errN_bind (errN_list errN_lit) (fun _ => errN_ok (f := fun j => j)) _ _ _ h
  · exact errN_bind (errN_some 1 []) (fun _ => errN_bind errN_lit fun _ => errN_ok (f := fun j => j)) _ _ _ h
theorem errN_con : ErrN (conP isNameS numV names l) := fun i j e h => by
  rw [conP_eq] at h
  exact errN_bind errN_word (fun o => errN_conB) _ _ _ h
theorem read_cons_run (hl : l.length * 32 ≤ 140737488355328) (hd : DigOk l) (hN : ∀ s, mget .str .int s names = ixName s pv 0) : ∀ (fuel : Nat) (cs : List ConD) (j : Nat), j ≤ l.length → l.length < j + fuel → cs.length * 4 ≤ j →
    (((consR isNameS numV l names fuel cs j).bind fun cs j => (goalP isNameS l names j).bind fun g j => .ok (cs, g) j).on (fun x j' => R (dR (finM ⟨pv, x.1, x.2.1, x.2.2⟩))) (fun j' e => R (dR (mEmpty, hereP l en j', e)))) →
    ∃ n, cordonref_ParseOf_I2 R l n ([] : List VarD) ([] : List ConD) 0 0 l (j : Int) en 0 0 0 pv cs
  | 0, cs, j, h1, h2, _, _ => by omega
  | fuel + 1, cs, j, h1, h2, h3, hx => by
    rw [consR] at hx
    cases hb : takeB l ⟨#[99, 111, 110]⟩ j with
    | false =>
      rw [hb, if_neg (by decide)] at hx
      have hx : ((goalP isNameS l names j).bind fun g j => Pr.ok (cs, g) j).on _ _ := hx
      rw [Pr.on_bind] at hx
      exact ⟨1, read_goal_ok hl hN hb hx⟩
    | true =>
      rw [hb, if_pos rfl] at hx
      have hlt := takeB_lt hb
      obtain ⟨c, s1, hc, ac⟩ := (read_con_ok (en := en) (goal := 0) (mvar := 0) (pv := pv) (pc := cs) hd hN (j + 1) 0).ans
      have hq := read_need_ok (l := l) (en := en) (goal := 0) (mvar := 0) (pv := pv) (pc := cs) (s := ⟨#[59]⟩) (by decide) s1.1 s1.2
      have aq : Ans ((conP isNameS numV names l (j + 1)).bind fun c j => (needP l [⟨#[59]⟩] j).bind fun _ j => .ok c j) (j + 1) 0 c (stR (needP l [⟨#[59]⟩] s1.1) s1.1 s1.2) :=
        Ans.bind (fun i e h => errN_con _ _ _ h) ac (Ans.bind (x := ()) (fun i e h => errN_need _ _ _ h) ⟨rfl, fun _ _ _ _ => rfl⟩ Ans.pure)
      have hst : stR (needP l [⟨#[59]⟩] s1.1) s1.1 s1.2 = ((conP isNameS numV names l (j + 1)).bind fun c j => (needP l [⟨#[59]⟩] j).bind fun _ j => .ok c j).st := aq.1.trans (if_pos rfl)
      have hval := aq.2 rfl
      have hroom : room .con (cs.length + [c].length) = true := room_of (t := .con) (by show (cs.length + 1) * 112 ≤ _; omega)
      have hx : (((conP isNameS numV names l (j + 1)).bind fun c j => (needP l [⟨#[59]⟩] j).bind fun _ j => .ok c j).bind fun c j => (consR isNameS numV l names fuel (cs ++ [c]) j).bind fun cs j => (goalP isNameS l names j).bind fun g j => Pr.ok (cs, g) j).on (fun x j' => R (dR (finM ⟨pv, x.1, x.2.1, x.2.2⟩))) (fun j' e => R (dR (mEmpty, hereP l en j', e))) := by
        revert hx
        cases conP isNameS numV names l (j + 1) with
        | err k e => exact id
        | ok y k =>
          simp only [Pr.bind]
          cases needP l [⟨#[59]⟩] k with
          | err k e => exact id
          | ok y k => exact id
      have hadv : ∀ c k, ((conP isNameS numV names l (j + 1)).bind fun c j => (needP l [⟨#[59]⟩] j).bind fun _ j => .ok c j) = .ok c k → j + 4 ≤ k ∧ k ≤ l.length := fun c k h => by
        obtain ⟨y, k1, h1, h4⟩ := bind_ok h
        obtain ⟨u, k2, h5, h6⟩ := bind_ok h4
        have := con_adv h1
        have := need1_ok h5
        injection h6 with _ h6
        omega
      have herr : ∀ k e, ((conP isNameS numV names l (j + 1)).bind fun c j => (needP l [⟨#[59]⟩] j).bind fun _ j => .ok c j) = .err k e → e ≠ 0 := fun k e h => errN_bind (f := conP isNameS numV names l) (fun i j e h => errN_con _ _ _ h) (fun c => errN_bind (errN_need (s := ⟨#[59]⟩)) fun _ => errN_ok (f := fun j => j)) _ _ _ h
      generalize ((conP isNameS numV names l (j + 1)).bind fun c j => (needP l [⟨#[59]⟩] j).bind fun _ j => Pr.ok c j) = r at hst hval hx hadv herr
      rw [hst] at hq
      cases r with
      | err k e =>
        have he := herr _ _ rfl
        obtain ⟨n, hr⟩ := read_bad (pv := pv) (R := R) hl he (pc := cs ++ [c]) (j := k) hx
        refine ⟨n + 1, ?_⟩
        rw [cordonref_ParseOf_I2_eq]
        refine ⟨_, read_text_ok j 0, dt ((rText_take (by decide)).2 hb) ⟨_, _, read_need_ok (s := ⟨#[99, 111, 110]⟩) (by decide) j 0, ?_⟩⟩
        rw [need_st, if_pos rfl, if_pos hb]
        exact ⟨_, _, _, hc, _, _, hq, hroom, hr⟩
      | ok y k =>
        have := hval _ _ rfl
        subst this
        obtain ⟨a1, a2⟩ := hadv _ _ rfl
        obtain ⟨n, hr⟩ := read_cons_run hl hd hN fuel (cs ++ [c]) k a2 (by omega) (by rw [List.length_append]; show (_ + 1) * 4 ≤ _; omega) hx
        refine ⟨n + 1, ?_⟩
        rw [cordonref_ParseOf_I2_eq]
        refine ⟨_, read_text_ok j 0, dt ((rText_take (by decide)).2 hb) ⟨_, _, read_need_ok (s := ⟨#[99, 111, 110]⟩) (by decide) j 0, ?_⟩⟩
        rw [need_st, if_pos rfl, if_pos hb]
        exact ⟨_, _, _, hc, _, _, hq, hroom, hr⟩
/-- A variable behind its name. -/
def varB (l : List Tok) (s : ByteArray) (j : Nat) : Pr VarD := (needP l [⟨#[58]⟩] j).bind fun _ j => (kP numV l j).bind fun a j => (needP l [⟨#[46, 46]⟩] j).bind fun _ j => (kP numV l j).bind fun b j => (needP l [⟨#[59]⟩] j).bind fun _ j => .ok ⟨s, a, b⟩ j
theorem errN_varB {s : ByteArray} : ErrN (varB l s) := errN_bind errN_need fun _ => errN_bind errN_k fun a => errN_bind errN_need fun _ => errN_bind errN_k fun b => errN_bind errN_need fun _ => errN_ok (f := fun j => j)
theorem read_varB (hd : DigOk l) (vs : List VarD) (s : ByteArray) (j : Nat) (er : Int) : ∃ (a b : Int) (s1 s2 s3 s4 s5 : Nat × Int),
    SatH Tryz.prog f_cordonref_Reader_Need [.ptr 1000 0, .str ⟨#[58]⟩] (hpR l en 0 0 [] [] j er) (.tup []) (hpR l en 0 0 [] [] s1.1 s1.2) ∧
    SatH Tryz.prog f_cordonref_Reader_K [.ptr 1000 0] (hpR l en 0 0 [] [] s1.1 s1.2) (dI a) (hpR l en 0 0 [] [] s2.1 s2.2) ∧
    SatH Tryz.prog f_cordonref_Reader_Need [.ptr 1000 0, .str ⟨#[46, 46]⟩] (hpR l en 0 0 [] [] s2.1 s2.2) (.tup []) (hpR l en 0 0 [] [] s3.1 s3.2) ∧
    SatH Tryz.prog f_cordonref_Reader_K [.ptr 1000 0] (hpR l en 0 0 [] [] s3.1 s3.2) (dI b) (hpR l en 0 0 [] [] s4.1 s4.2) ∧
    SatH Tryz.prog f_cordonref_Reader_Need [.ptr 1000 0, .str ⟨#[59]⟩] (hpR l en 0 0 [] [] s4.1 s4.2) (.tup []) (hpR l en 0 0 [] [] s5.1 s5.2) ∧ Ans (varB l s j) j er ⟨s, a, b⟩ s5 := by
  have n1 := read_need_ok (l := l) (en := en) (goal := 0) (mvar := 0) (pv := []) (pc := []) (s := ⟨#[58]⟩) (by decide) j er
  have a1 : Ans (needP l [⟨#[58]⟩] j) j er () (stR (needP l [⟨#[58]⟩] j) j er) := ⟨rfl, fun _ _ _ _ => rfl⟩
  generalize stR (needP l [⟨#[58]⟩] j) j er = s1 at n1 a1
  obtain ⟨a, s2, k2, a2⟩ := (read_k_ok (l := l) (en := en) (goal := 0) (mvar := 0) (pv := []) (pc := []) hd s1.1 s1.2).ans
  have n3 := read_need_ok (l := l) (en := en) (goal := 0) (mvar := 0) (pv := []) (pc := []) (s := ⟨#[46, 46]⟩) (by decide) s2.1 s2.2
  have a3 : Ans (needP l [⟨#[46, 46]⟩] s2.1) s2.1 s2.2 () (stR (needP l [⟨#[46, 46]⟩] s2.1) s2.1 s2.2) := ⟨rfl, fun _ _ _ _ => rfl⟩
  generalize stR (needP l [⟨#[46, 46]⟩] s2.1) s2.1 s2.2 = s3 at n3 a3
  obtain ⟨b, s4, k4, a4⟩ := (read_k_ok (l := l) (en := en) (goal := 0) (mvar := 0) (pv := []) (pc := []) hd s3.1 s3.2).ans
  have n5 := read_need_ok (l := l) (en := en) (goal := 0) (mvar := 0) (pv := []) (pc := []) (s := ⟨#[59]⟩) (by decide) s4.1 s4.2
  have a5 : Ans (needP l [⟨#[59]⟩] s4.1) s4.1 s4.2 () (stR (needP l [⟨#[59]⟩] s4.1) s4.1 s4.2) := ⟨rfl, fun _ _ _ _ => rfl⟩
  generalize stR (needP l [⟨#[59]⟩] s4.1) s4.1 s4.2 = s5 at n5 a5
  exact ⟨a, b, s1, s2, s3, s4, s5, n1, k2, n3, k4, n5, Ans.bind (fun i e h => errN_need _ _ _ h) a1 (Ans.bind (fun i e h => errN_k _ _ _ h) a2 (Ans.bind (fun i e h => errN_need _ _ _ h) a3 (Ans.bind (fun i e h => errN_k _ _ _ h) a4 (Ans.bind (fun i e h => errN_need _ _ _ h) a5 Ans.pure))))⟩
theorem varB_adv {s : ByteArray} {i j : Nat} {x : VarD} (h : varB l s i = .ok x j) : i < j ∧ j ≤ l.length := by
  unfold varB at h
  obtain ⟨_, _, h2, h⟩ := bind_ok h; obtain ⟨_, _, h3, h⟩ := bind_ok h
  obtain ⟨_, _, h4, h⟩ := bind_ok h; obtain ⟨_, _, h5, h⟩ := bind_ok h; obtain ⟨_, _, h6, h⟩ := bind_ok h
  injection h with _ h
  have := need1_ok h2; have := adv_k _ _ _ h3; have := need1_ok h4; have := adv_k _ _ _ h5; have := need1_ok h6
  omega
theorem read_bad0 (hl : l.length * 32 ≤ 140737488355328) {j : Nat} {er : Int} (he : er ≠ 0) {vs : List VarD} (hR : R (dR (mEmpty, hereP l en j, er))) : ∃ n, cordonref_ParseOf_I0 R l n ([] : List VarD) ([] : List ConD) 0 0 l (j : Int) en er 0 0 vs [] [] := by
  refine ⟨1, ?_⟩
  rw [cordonref_ParseOf_I0_eq]
  refine ⟨_, read_text_ok j er, ?_⟩
  rw [rText_bad he]
  exact df (by decide) (read_bad hl he hR)
theorem read_vars_run (hl : l.length * 32 ≤ 140737488355328) (hd : DigOk l) : ∀ (fuel : Nat) (vs : List VarD) (ns : List (ByteArray × Int)) (j : Nat), j ≤ l.length → l.length < j + fuel → vs.length ≤ j → (∀ s, mget .str .int s ns = ixName s vs 0) →
    (((varsR isNameS numV l fuel vs ns j).bind fun x j => (consR isNameS numV l x.2 (l.length + 1) [] j).bind fun cs j => (goalP isNameS l x.2 j).bind fun g j => .ok (x, cs, g) j).on (fun y j' => R (dR (finM ⟨y.1.1, y.2.1, y.2.2.1, y.2.2.2⟩))) (fun j' e => R (dR (mEmpty, hereP l en j', e)))) →
    ∃ n, cordonref_ParseOf_I0 R l n ([] : List VarD) ([] : List ConD) 0 0 l (j : Int) en 0 0 0 vs [] []
  | 0, vs, ns, j, h1, h2, _, _, _ => by omega
  | fuel + 1, vs, ns, j, h1, h2, h3, hN, hx => by
    rw [varsR] at hx
    cases hb : takeB l ⟨#[118, 97, 114]⟩ j with
    | false =>
      rw [hb, if_neg (by decide)] at hx
      have hx : ((consR isNameS numV l ns (l.length + 1) [] j).bind fun cs j => (goalP isNameS l ns j).bind fun g j => Pr.ok ((vs, ns), cs, g) j).on _ _ := hx
      refine ⟨1, ?_⟩
      rw [cordonref_ParseOf_I0_eq]
      refine ⟨_, read_text_ok j 0, df (fun e => by rw [(rText_take (by decide)).1 e] at hb; cases hb) ?_⟩
      refine read_cons_run hl hd hN (l.length + 1) [] j h1 (by omega) (Nat.zero_le _) ?_
      rw [Pr.on_bind] at hx ⊢
      refine Pr.on_mono hx (fun cs j' h => ?_) fun _ _ h => h
      rw [Pr.on_bind] at h ⊢
      exact h
    | true =>
      rw [hb, if_pos rfl] at hx
      have hlt := takeB_lt hb
      by_cases hc : j + 1 < l.length ∧ isNameS (tokA l (j + 1)).text = true
      · have ht : rText l (j + 1) 0 = (tokA l (j + 1)).text := if_pos ⟨rfl, hc.1⟩
        have hx : ((varB l (tokA l (j + 1)).text (j + 2)).bind fun v j => (varsR isNameS numV l fuel (vs ++ [v]) (addName ns v.name vs.length) j).bind fun x j => (consR isNameS numV l x.2 (l.length + 1) [] j).bind fun cs j => (goalP isNameS l x.2 j).bind fun g j => Pr.ok (x, cs, g) j).on (fun y j' => R (dR (finM ⟨y.1.1, y.2.1, y.2.2.1, y.2.2.2⟩))) (fun j' e => R (dR (mEmpty, hereP l en j', e))) := by
          have e : varP isNameS numV l (j + 1) = varB l (tokA l (j + 1)).text (j + 2) := by
            rw [varP, nameP, if_pos hc]; rfl
          rw [e] at hx
          revert hx
          cases varB l (tokA l (j + 1)).text (j + 2) with
          | ok y k => exact id
          | err k e => exact id
        obtain ⟨a, b, s1, s2, s3, s4, s5, n1, k2, n3, k4, n5, aq⟩ := read_varB (en := en) hd vs (tokA l (j + 1)).text (j + 2) 0
        have hst : s5 = (varB l (tokA l (j + 1)).text (j + 2)).st := aq.1.trans (if_pos rfl)
        have hval := aq.2 rfl
        have hroom : room .var (vs.length + [(⟨(tokA l (j + 1)).text, a, b⟩ : VarD)].length) = true := room_of (t := .var) (by show (vs.length + 1) * 32 ≤ _; omega)
        clear aq
        cases hr : varB l (tokA l (j + 1)).text (j + 2) with
        | err k e =>
          rw [hr] at hst hx
          have he := errN_varB _ _ _ hr
          have hst : s5 = (k, e) := hst
          subst hst
          obtain ⟨n, hn⟩ := read_bad0 (R := R) hl he (vs := vs ++ [⟨(tokA l (j + 1)).text, a, b⟩]) hx
          refine ⟨n + 1, ?_⟩
          rw [cordonref_ParseOf_I0_eq]
          refine ⟨_, read_text_ok j 0, dt ((rText_take (by decide)).2 hb) ⟨_, _, read_need_ok (s := ⟨#[118, 97, 114]⟩) (by decide) j 0, ?_⟩⟩
          rw [need_st, if_pos rfl, if_pos hb]
          refine ⟨_, read_text_ok (j + 1) 0, ?_⟩
          rw [ht]
          refine call1 (t := .bool) (cordonref_IsName_ok _) (bt hc.2 ?_)
          rw [w64_up (by omega)]
          exact ⟨_, _, n1, _, _, _, k2, _, _, n3, _, _, _, k4, _, _, n5, hroom, hn⟩
        | ok y k =>
          rw [hr] at hst hx hval
          have hst : s5 = (k, 0) := hst
          have := hval _ _ rfl
          subst hst this
          have ha := varB_adv hr
          obtain ⟨n, hn⟩ := read_vars_run hl hd fuel (vs ++ [(⟨(tokA l (j + 1)).text, a, b⟩ : VarD)]) (addName ns (tokA l (j + 1)).text vs.length) k ha.2 (by omega) (by rw [List.length_append]; show _ + 1 ≤ _; omega) (names_step (v := ⟨(tokA l (j + 1)).text, a, b⟩) hN) hx
          refine ⟨n + 1, ?_⟩
          rw [cordonref_ParseOf_I0_eq]
          refine ⟨_, read_text_ok j 0, dt ((rText_take (by decide)).2 hb) ⟨_, _, read_need_ok (s := ⟨#[118, 97, 114]⟩) (by decide) j 0, ?_⟩⟩
          rw [need_st, if_pos rfl, if_pos hb]
          refine ⟨_, read_text_ok (j + 1) 0, ?_⟩
          rw [ht]
          refine call1 (t := .bool) (cordonref_IsName_ok _) (bt hc.2 ?_)
          rw [w64_up (by omega)]
          exact ⟨_, _, n1, _, _, _, k2, _, _, n3, _, _, _, k4, _, _, n5, hroom, hn⟩
      · have hf : isNameS (rText l (j + 1) 0) = false := by
          unfold rText
          split
          · rename_i x
            cases hbb : isNameS (tokA l (j + 1)).text with
            | false => rfl
            | true => exact absurd ⟨x.2, hbb⟩ hc
          · exact isName_empty
        have hR : R (dR (mEmpty, hereP l en (j + 1), 1)) := by
          have e : varP isNameS numV l (j + 1) = .err (j + 1) 1 := by rw [varP, nameP, if_neg hc]; rfl
          rw [e] at hx; exact hx
        obtain ⟨a, b, s1, s2, s3, s4, s5, n1, k2, n3, k4, n5, aq⟩ := read_varB (en := en) hd vs (rText l (j + 1) 0) (j + 1) 1
        have hst : s5 = (j + 1, 1) := aq.1.trans (if_neg (by decide))
        subst hst
        have hroom : room .var (vs.length + [(⟨rText l (j + 1) 0, a, b⟩ : VarD)].length) = true := room_of (t := .var) (by show (vs.length + 1) * 32 ≤ _; omega)
        obtain ⟨n, hn⟩ := read_bad0 (R := R) hl (by decide) (vs := vs ++ [⟨rText l (j + 1) 0, a, b⟩]) hR
        refine ⟨n + 1, ?_⟩
        rw [cordonref_ParseOf_I0_eq]
        refine ⟨_, read_text_ok j 0, dt ((rText_take (by decide)).2 hb) ⟨_, _, read_need_ok (s := ⟨#[118, 97, 114]⟩) (by decide) j 0, ?_⟩⟩
        rw [need_st, if_pos rfl, if_pos hb]
        refine ⟨_, read_text_ok (j + 1) 0, call1 (t := .bool) (cordonref_IsName_ok _) (bf hf ⟨_, read_wrong_ok (j + 1) 0 1, ?_⟩)⟩
        rw [if_pos rfl]
        exact ⟨_, _, n1, _, _, _, k2, _, _, n3, _, _, _, k4, _, _, n5, hroom, hn⟩
/-- The whole, behind the scan. -/
theorem read_all (hl : l.length * 32 ≤ 140737488355328) (hd : DigOk l) (hR : R (dR (parseT l en))) : ∃ n, cordonref_ParseOf_I0 R l n ([] : List VarD) ([] : List ConD) 0 0 l 0 en 0 0 0 [] [] [] := by
  refine read_vars_run hl hd (l.length + 1) [] [] 0 (Nat.zero_le _) (by omega) (Nat.le_refl _) (fun s => rfl) ?_
  have h : (modelP isNameS numV l).on (fun x j' => R (dR (finM x.1))) (fun j' e => R (dR (mEmpty, hereP l en j', e))) := by
    unfold parseT at hR
    cases hm : modelP isNameS numV l with
    | ok x j => rw [hm] at hR; exact hR
    | err j e => rw [hm] at hR; exact hR
  rw [modelP, Pr.on_bind] at h
  rw [Pr.on_bind]
  refine Pr.on_mono h (fun x j h => ?_) fun _ _ h => h
  rw [Pr.on_bind] at h ⊢
  refine Pr.on_mono h (fun cs j h => ?_) fun _ _ h => h
  rw [Pr.on_bind] at h ⊢
  exact h
end
end Go.Proofs.YtogdmcebojiojaaGreatDoor

/- Errors of texts are few: printed out of the reader's texts (see NOTES.md). -/
namespace Go.Proofs.YtogdmcebojiojaaGreatDoor
open Go.RowKit
set_option linter.unusedVariables false
set_option linter.unusedSimpArgs false

/-- What goes wrong has a small number. -/
def ErrB {α : Type} (f : Nat → Pr α) : Prop := ∀ i j e, f i = .err j e → e = 1 ∨ e = 5
section
variable {l : List Tok} {names : List (ByteArray × Int)}
theorem errB_v : ErrB (vP isNameS names l) := fun i j e h => by
  unfold vP nameP at h
  split at h
  · simp only [Pr.bind] at h
    split at h
    · cases h
    · injection h with h1 h2; subst h2; decide
  · injection h with h1 h2; subst h2; decide
theorem errB_k {nv : ByteArray → Int} : ErrB (kP nv l) := fun i j e h => by
  unfold kP digP at h
  split at h <;> split at h <;> first | (cases h; done) | (injection h with _ h; subst h; decide)
theorem errB_listR {α : Type} {f : Nat → Pr α} (hf : ErrB f) : ∀ (n : Nat) (acc : List α), ErrB (listR l f n acc)
  | 0, acc => fun i j e h => by rw [listR] at h; injection h with _ h; subst h; decide
  | n + 1, acc => fun i j e h => by
    rw [listR] at h
    split at h
    · cases hv : f (i + 1) with
      | ok x k => rw [hv] at h; exact errB_listR hf n _ _ _ _ h
      | err k e' => rw [hv] at h; injection h with _ h; subst h; exact hf _ _ _ hv
    · rw [needP, needP] at h
      split at h
      · cases h
      · injection h with _ h; subst h; decide
theorem errB_list {α : Type} {f : Nat → Pr α} (hf : ErrB f) : ErrB (listP l f) := fun i j e h => by
  rw [listP_more1] at h
  split at h
  · split at h
    · cases h
    · cases hv : f (i + 1) with
      | ok x k => rw [hv] at h; exact errB_listR hf _ _ _ _ _ h
      | err k e' => rw [hv] at h; injection h with _ h; subst h; exact hf _ _ _ hv
  · injection h with _ h; subst h; decide
theorem errB_word {ss : List ByteArray} : ErrB (wordR l ss) := fun i j e h => by
  unfold wordR at h
  split at h
  · cases h
  · injection h with _ h; subst h; decide
theorem errB_bind {α β : Type} {f : Nat → Pr α} {g : α → Nat → Pr β} (hf : ErrB f) (hg : ∀ x, ErrB (g x)) : ErrB (fun j => (f j).bind g) := fun i j e h => by
  cases hv : f i with
  | ok x k => simp only [hv, Pr.bind] at h; exact hg _ _ _ _ h
  | err k e' => simp only [hv, Pr.bind] at h; injection h with _ h; subst h; exact hf _ _ _ hv
theorem errB_ok {α : Type} {x : α} {f : Nat → Nat} : ErrB (fun j => Pr.ok x (f j)) := fun i j e h => by cases h
theorem errB_lit : ErrB (litP isNameS numV names l) := fun i j e h => by
  rw [litP_eq] at h
  exact errB_bind errB_v (fun v => errB_bind errB_word fun o => errB_bind errB_k fun n => errB_ok) _ _ _ h
theorem errB_some : ∀ (n : Nat) (acc : List Int), ErrB (someP isNameS names l n acc)
  | 0, acc => fun i j e h => by cases h
  | n + 1, acc => fun i j e h => by
    rw [someP] at h
    exact errB_bind (errB_v (names := names) (l := l)) (fun x => errB_some n _) _ _ _ h
theorem errB_need {s : ByteArray} : ErrB (needP l [s]) := fun i j e h => by
  rw [needP, needP] at h
  split at h
  · cases h
  · injection h with _ h; subst h; decide
theorem errB_conB {o : Int} : ErrB (conB isNameS numV names l o) := fun i j e h => by
  unfold conB at h
  split at h
  · exact errB_bind (errB_list errB_k) (fun _ => errB_bind (errB_list errB_v) fun _ => errB_bind errB_k fun _ => errB_ok (f := fun j => j)) _ _ _ h
  split at h
  · exact errB_bind (errB_list errB_v) (fun _ => errB_ok (f := fun j => j)) _ _ _ h
  split at h
  · exact errB_bind (errB_list errB_k) (fun _ => errB_bind (errB_some 2 []) fun _ => errB_ok (f := fun j => j)) _ _ _ h
  split at h
  · exact errB_bind (errB_list errB_v) (fun _ => errB_bind (errB_list (errB_list errB_k)) fun _ => errB_ok (f := fun j => j)) _ _ _ h
  split at h
  · exact errB_bind (errB_some 3 []) (fun _ => errB_ok (f := fun j => j)) _ _ _ h
  split at h
  · exact errB_bind errB_v (fun _ => errB_bind (errB_list errB_v) fun _ => errB_ok (f := fun j => j)) _ _ _ h
  split at h
  · exact errB_bind (errB_list errB_lit) (fun _ => errB_ok (f := fun j => j)) _ _ _ h
  · exact errB_bind (errB_some 1 []) (fun _ => errB_bind errB_lit fun _ => errB_ok (f := fun j => j)) _ _ _ h
theorem errB_con : ErrB (conP isNameS numV names l) := fun i j e h => by
  rw [conP_eq] at h
  exact errB_bind errB_word (fun o => errB_conB) _ _ _ h
theorem errB_varB {s : ByteArray} : ErrB (varB l s) := errB_bind errB_need fun _ => errB_bind errB_k fun a => errB_bind errB_need fun _ => errB_bind errB_k fun b => errB_bind errB_need fun _ => errB_ok (f := fun j => j)
theorem errB_var : ErrB (varP isNameS numV l) := fun i j e h => by
  rw [varP, nameP] at h
  split at h
  · exact errB_varB _ _ _ h
  · injection h with _ h; subst h; decide
theorem errB_vars : ∀ (n : Nat) (vs : List VarD) (ns : List (ByteArray × Int)), ErrB (varsR isNameS numV l n vs ns)
  | 0, vs, ns => fun i j e h => by rw [varsR] at h; injection h with _ h; subst h; decide
  | n + 1, vs, ns => fun i j e h => by
    rw [varsR] at h
    split at h
    · exact errB_bind (errB_var (l := l)) (fun v => errB_vars n _ _) _ _ _ h
    · cases h
theorem errB_cons : ∀ (n : Nat) (cs : List ConD), ErrB (consR isNameS numV l names n cs)
  | 0, cs => fun i j e h => by rw [consR] at h; injection h with _ h; subst h; decide
  | n + 1, cs => fun i j e h => by
    rw [consR] at h
    split at h
    · exact errB_bind (errB_con (l := l) (names := names)) (fun c => errB_bind errB_need fun _ => errB_cons n _) _ _ _ h
    · cases h
theorem errB_last {x : Int × Int} : ErrB (lastP l x) := fun i j e h => by
  rw [lastP] at h
  refine errB_bind (errB_need (l := l) (s := ⟨#[59]⟩)) (fun _ => ?_) _ _ _ h
  intro i j e h
  have h : (if i < l.length then Pr.err i 1 else Pr.ok x i) = Pr.err j e := h
  split at h
  · injection h with _ h; subst h; decide
  · cases h
theorem errB_goal : ErrB (goalP isNameS l names) := fun i j e h => by
  rw [goalP_eq] at h
  refine errB_bind (errB_need (l := l)) (fun _ => errB_bind (errB_word (l := l)) fun o => ?_) _ _ _ h
  intro i j e h
  have h : (if o = 0 then lastP l (0, 0) i else (vP isNameS names l i).bind fun v j => lastP l (o, v) j) = Pr.err j e := h
  split at h
  · exact errB_last _ _ _ h
  · exact errB_bind (errB_v (l := l) (names := names)) (fun v => errB_last) _ _ _ h
theorem errB_model {j : Nat} {e : Int} (h : modelP isNameS numV l = .err j e) : e = 1 ∨ e = 5 := by
  rw [modelP] at h
  exact errB_bind (errB_vars (l := l) _ [] []) (fun x => errB_bind (errB_cons (l := l) (names := x.2) _ []) fun cs => errB_bind (errB_goal (l := l) (names := x.2)) fun g => errB_ok (f := fun j => j)) _ _ _ h
theorem here_i64 {w : World} {S : Nat → Prop} {pl : Nat → Value} {en goal mvar : Int} {pv : List VarD} {pc : List ConD} {i : Nat} (hh : HOk w S pl (hpP l en goal mvar pv pc names i)) (j : Nat) : inI64 (hereP l en j) := by
  have h := ob_ok (hh.ok 1000 _ rfl)
  unfold hereP
  split
  · rename_i hj
    have h1 := h (.sl .tok l) (by simp)
    exact (h1.2 _ (tok_mem hj)).2.1
  · exact h (dI en) (by simp)
end
end Go.Proofs.YtogdmcebojiojaaGreatDoor
