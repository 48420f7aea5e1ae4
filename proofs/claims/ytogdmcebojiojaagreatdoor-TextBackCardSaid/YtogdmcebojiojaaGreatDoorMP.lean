/- Texts of this proof, one behind the other: nothing is handed in but what is proved here; no condition. -/
import Derived.Test.YtogdmcebojiojaaGreatDoorMO
import Derived.Test.YtogdmcebojiojaaGreatDoorWCordonref
import Derived.Test.YtogdmcebojiojaaGreatDoorWText
import Derived.Recover
import Derived.Test.YtogdmcebojiojaaGreatDoorME
import Derived.Test.YtogdmcebojiojaaGreatDoorQMap
/- The reader of the document: its small calls, with an error kept. -/
namespace Go.Proofs.YtogdmcebojiojaaGreatDoor
open Go.RowKit
set_option linter.unusedVariables false
set_option linter.unusedSimpArgs false

abbrev hpR (l : List Tok) (en goal mvar : Int) (pv : List VarD) (pc : List ConD) (j : Nat) (er : Int) : List (Nat × HObj) :=
  [(1000, .cells [.sl .tok l, dI j, dI en, dI er, .own 2000, .own 2001, dI goal, dI mvar]), (2000, .row 72 .var pv), (2001, .row 74 .con pc)]
/-- Where one stands behind a reading, and what is wrong then. -/
def Pr.st {α : Type} : Pr α → Nat × Int
  | .ok _ j => (j, 0)
  | .err j e => (j, e)
def stR {α : Type} (r : Pr α) (j : Nat) (er : Int) : Nat × Int := if er = 0 then r.st else (j, er)
section
variable {l : List Tok} {en goal mvar : Int} {pv : List VarD} {pc : List ConD}
end
end Go.Proofs.YtogdmcebojiojaaGreatDoor

/- The reader of the document: words and variables. -/
namespace Go.Proofs.YtogdmcebojiojaaGreatDoor
open Go.RowKit
set_option linter.unusedVariables false
set_option linter.unusedSimpArgs false

/-- The first one of a name. -/
def ixName (s : ByteArray) : List VarD → Int → Option Int
  | [], _ => none
  | v :: r, i => if v.name = s then some i else ixName s r (i + 1)
section
variable {l : List Tok} {en goal mvar : Int} {pv : List VarD} {pc : List ConD} {names : List (ByteArray × Int)}
/-- A reader's call: with nothing wrong it does what the grammar says; else nothing. -/
def SatR {α : Type} (l : List Tok) (en goal mvar : Int) (pv : List VarD) (pc : List ConD) (f : FuncId) (args : List D) (d : α → D) (r : Pr α) (j : Nat) (er : Int) : Prop :=
  ∃ x, SatH Tryz.prog f args (hpR l en goal mvar pv pc j er) (d x) (hpR l en goal mvar pv pc (stR r j er).1 (stR r j er).2) ∧ (er = 0 → ∀ y k, r = .ok y k → x = y)
def wordR (l : List Tok) (ss : List ByteArray) (j : Nat) : Pr Int := match wordP l ss 0 j with
  | some o => .ok o (j + 1)
  | none => .err j 1
end
end Go.Proofs.YtogdmcebojiojaaGreatDoor

/- The reader of the document: is there more of a list? -/
namespace Go.Proofs.YtogdmcebojiojaaGreatDoor
open Go.RowKit
set_option linter.unusedVariables false
set_option linter.unusedSimpArgs false

section
variable {l : List Tok} {en goal mvar : Int} {pv : List VarD} {pc : List ConD}
end
end Go.Proofs.YtogdmcebojiojaaGreatDoor

/- The reader's lists: printed by gen_pread4.py. -/
namespace Go.Proofs.YtogdmcebojiojaaGreatDoor
open Go.RowKit
set_option linter.unusedVariables false
set_option linter.unusedSimpArgs false

theorem listP_more1 {α : Type} {l : List Tok} {f : Nat → Pr α} {j : Nat} : listP l f j = if takeB l ⟨#[91]⟩ j = true then (if takeB l ⟨#[93]⟩ (j + 1) = true then .ok [] (j + 2) else (f (j + 1)).bind fun x j => listR l f (l.length + 1) [x] j) else .err j 1 := by
  rw [listP, needP, needP]
  by_cases h : takeB l ⟨#[91]⟩ j = true
  · rw [if_pos h, if_pos h]; rfl
  · rw [if_neg h, if_neg h]; rfl
section
variable {l : List Tok} {en goal mvar : Int} {pv : List VarD} {pc : List ConD} {names : List (ByteArray × Int)}
end
end Go.Proofs.YtogdmcebojiojaaGreatDoor

/- The reader of the document: its numbers. -/
namespace Go.Proofs.YtogdmcebojiojaaGreatDoor
open Go.RowKit
set_option linter.unusedVariables false
set_option linter.unusedSimpArgs false

/-- Numbers are short rows of digits, and nothing else begins with one. -/
def DigOk (l : List Tok) : Prop := ∀ t ∈ l, (t.kind = 2 → 0 < t.text.size ∧ t.text.size ≤ 4 ∧ ∀ i, i < t.text.size → 48 ≤ byteAt t.text i ∧ byteAt t.text i ≤ 57) ∧ (t.kind ≠ 2 → ¬ (48 ≤ byteAt t.text 0 ∧ byteAt t.text 0 ≤ 57))
def numF (s : ByteArray) : Nat → Int
  | 0 => 0
  | k + 1 => 10 * numF s k + byteAt s k - 48
theorem numF_bd {s : ByteArray} (h : ∀ i, i < s.size → 48 ≤ byteAt s i ∧ byteAt s i ≤ 57) : ∀ k, k ≤ s.size → 0 ≤ numF s k ∧ numF s k < 10 ^ k
  | 0, _ => ⟨Int.le_refl _, by rw [numF]; decide⟩
  | k + 1, hk => by
    obtain ⟨h1, h2⟩ := numF_bd h k (by omega)
    have h3 := h k (by omega)
    rw [numF, Int.pow_succ]
    generalize (10 : Int) ^ k = p at h2
    omega
theorem numF_dec {s : ByteArray} (h : ∀ i, i < s.size → 48 ≤ byteAt s i ∧ byteAt s i ≤ 57) : ∀ k, k ≤ s.size → ∃ n : Nat, Lib.decFrom 0 (s.data.toList.take k) = some n ∧ numF s k = (n : Int)
  | 0, _ => ⟨0, rfl, rfl⟩
  | k + 1, hk => by
    obtain ⟨n, h1, h2⟩ := numF_dec h k (by omega)
    have h3 := h k (by omega)
    have hl : k < s.data.size := by have : s.size = s.data.size := rfl; omega
    have hb : s.data.toList[k]? = some (s.data[k]) := by rw [Array.getElem?_toList, Array.getElem?_eq_getElem hl]
    have e : byteAt s k = ((s.data[k]).toNat : Int) := by unfold byteAt; rw [Array.getD_eq_getD_getElem?, Array.getElem?_eq_getElem hl]; rfl
    have hv : Lib.digitVal (s.data[k]) = some ((s.data[k]).toNat - 48) := by unfold Lib.digitVal; rw [if_pos (by omega)]
    refine ⟨_, Lib.decFrom_take _ _ _ _ _ _ h1 hb hv, ?_⟩
    rw [numF, h2]; omega
theorem numF_eq {s : ByteArray} (h0 : 0 < s.size) (h : ∀ i, i < s.size → 48 ≤ byteAt s i ∧ byteAt s i ≤ 57) : Lib.atoi s.data.toList = some (numF s s.size) := by
  obtain ⟨n, h1, h2⟩ := numF_dec h s.size (Nat.le_refl _)
  have hl : s.data.toList.length = s.size := rfl
  rw [List.take_of_length_le (by omega)] at h1
  have h3 := h 0 h0
  have e : byteAt s 0 = ((s.data.toList.headD 0).toNat : Int) := by
    unfold byteAt
    cases hd : s.data.toList with
    | nil => rw [hd] at hl; simp at hl; omega
    | cons c r =>
      have : s.data = (c :: r).toArray := by rw [← hd]
      rw [this]; rfl
  cases hd : s.data.toList with
  | nil => rw [hd] at hl; simp at hl; omega
  | cons c r =>
    rw [hd] at h1 e
    simp only [List.headD_cons] at e
    unfold Lib.atoi
    simp only
    rw [if_neg (by intro x; have := eq_of_beq x; subst this; rw [e] at h3; simp at h3), if_neg (by intro x; have := eq_of_beq x; subst this; rw [e] at h3; simp at h3), Lib.decNat, if_neg (by simp), h1, h2]
    rfl
theorem numOk_of {l : List Tok} (h : DigOk l) : NumOk l := fun t ht hk => by
  obtain ⟨h1, h2, h3⟩ := (h t ht).1 hk
  have hb := numF_bd h3 _ (Nat.le_refl _)
  refine ⟨by omega, _, numF_eq h1 h3, hb.1, ?_⟩
  have h4 : t.text.size = 1 ∨ t.text.size = 2 ∨ t.text.size = 3 ∨ t.text.size = 4 := by omega
  rcases h4 with h4 | h4 | h4 | h4 <;> rw [h4] at hb ⊢ <;> have := hb.2 <;> simp at this <;> omega
section
variable {l : List Tok} {en goal mvar : Int} {pv : List VarD} {pc : List ConD}
theorem tok_mem {j : Nat} (hj : j < l.length) : tokA l j ∈ l := by
  unfold tokA
  rw [List.getD_eq_getElem?_getD, List.getElem?_eq_getElem hj]; exact List.getElem_mem hj
end
end Go.Proofs.YtogdmcebojiojaaGreatDoor

/- The reader's lists of numbers, literals, lists of these: printed by gen_pread4.py 6. -/
namespace Go.Proofs.YtogdmcebojiojaaGreatDoor
open Go.RowKit
set_option linter.unusedVariables false
set_option linter.unusedSimpArgs false

section
variable {l : List Tok} {en goal mvar : Int} {pv : List VarD} {pc : List ConD} {names : List (ByteArray × Int)}
theorem wordP_shift {ss : List ByteArray} {j : Nat} : ∀ (i : Int), wordP l ss (i + 1) j = (wordP l ss i j).map (1 + ·) := by
  induction ss with
  | nil => exact fun _ => rfl
  | cons s r ih =>
    intro i
    rw [wordP, wordP]
    split
    · show some (i + 1) = some (1 + i); rw [Int.add_comm]
    · exact ih (i + 1)
theorem litP_eq {j : Nat} : litP isNameS numV names l j = (vP isNameS names l j).bind fun v j => (wordR l opW j).bind fun o j => (kP numV l j).bind fun n j => .ok ⟨v, 1 + o, n⟩ j := by
  unfold litP
  congr 1; funext v j
  have := wordP_shift (l := l) (ss := opW) (j := j) 0
  rw [show (1 : Int) = 0 + 1 from rfl, this]
  unfold wordR
  cases wordP l opW 0 j <;> rfl
/-- What is answered, and where one stands then. -/
def Ans {α : Type} (r : Pr α) (j : Nat) (er : Int) (x : α) (s : Nat × Int) : Prop := s = stR r j er ∧ (er = 0 → ∀ y k, r = .ok y k → x = y)
theorem Ans.bind {α β : Type} {r : Pr α} {f : α → Nat → Pr β} {j : Nat} {er : Int} {x : α} {z : β} {s s' : Nat × Int} (he : ∀ i e, r = .err i e → e ≠ 0) (h1 : Ans r j er x s) (h2 : Ans (f x s.1) s.1 s.2 z s') : Ans (r.bind f) j er z s' := by
  obtain ⟨rfl, h1⟩ := h1
  obtain ⟨rfl, h2⟩ := h2
  by_cases h : er = 0
  · subst h
    have e : stR r j 0 = r.st := if_pos rfl
    rw [e] at h2 ⊢
    have e' : stR (r.bind f) j 0 = (r.bind f).st := if_pos rfl
    cases r with
    | ok y k =>
      have hx := h1 rfl y k rfl
      subst hx
      exact ⟨(if_pos rfl).trans e'.symm, fun _ => h2 rfl⟩
    | err k e1 =>
      have hne := he k e1 rfl
      exact ⟨(if_neg hne).trans e'.symm, fun _ y k h => by cases h⟩
  · have e : stR r j er = (j, er) := if_neg h
    rw [e] at h2 ⊢
    exact ⟨(if_neg h).trans (if_neg h).symm, fun h' => absurd h' h⟩
theorem SatR.ans {α : Type} {f : FuncId} {args : List D} {d : α → D} {r : Pr α} {j : Nat} {er : Int} (h : SatR l en goal mvar pv pc f args d r j er) : ∃ x s, SatH Tryz.prog f args (hpR l en goal mvar pv pc j er) (d x) (hpR l en goal mvar pv pc s.1 s.2) ∧ Ans r j er x s :=
  let ⟨x, h1, h2⟩ := h
  ⟨x, _, h1, rfl, h2⟩
theorem SatR.of {α : Type} {f : FuncId} {args : List D} {d : α → D} {r : Pr α} {j : Nat} {er : Int} {x : α} {s : Nat × Int} (h : SatH Tryz.prog f args (hpR l en goal mvar pv pc j er) (d x) (hpR l en goal mvar pv pc s.1 s.2)) (ha : Ans r j er x s) : SatR l en goal mvar pv pc f args d r j er := by
  obtain ⟨rfl, h2⟩ := ha
  exact ⟨x, h, h2⟩
end
end Go.Proofs.YtogdmcebojiojaaGreatDoor

/- The reader's constraints: printed by gen_pread7.py. -/
namespace Go.Proofs.YtogdmcebojiojaaGreatDoor
open Go.RowKit
set_option linter.unusedVariables false
set_option linter.unusedSimpArgs false

section
variable {l : List Tok} {en goal mvar : Int} {pv : List VarD} {pc : List ConD} {names : List (ByteArray × Int)}
theorem conP_eq {j : Nat} : conP isNameS numV names l j = (wordR l conW j).bind fun o j => conB isNameS numV names l (1 + o) j := by
  unfold conP
  have := wordP_shift (l := l) (ss := conW) (j := j) 0
  rw [show (1 : Int) = 0 + 1 from rfl, this]
  unfold wordR
  cases wordP l conW 0 j <;> rfl
end
end Go.Proofs.YtogdmcebojiojaaGreatDoor

/- The parser's deferred closure: a fault is caught, and told. -/
namespace Go.Proofs.YtogdmcebojiojaaGreatDoor
open Go.RowKit
set_option linter.unusedVariables false
set_option linter.unusedSimpArgs false

def mEmpty : MdlD := ⟨[], [], 0, 0⟩
abbrev dR (x : MdlD × Int × Int) : D := .tup [dM x.1, dI x.2.1, dI x.2.2]
def catchA : Ann := { own := [], live := [], n := 22, first := true }
/-- Where the results lie behind a fault. -/
structure Caught (w0 w : World) (p q r : Nat) (a e : Int) : Prop where
  below : BelowX w0.heap.size (fun b => b = p ∨ b = q ∨ b = r) w0 w
  m : ∃ vs T, w.heap[p]? = some (.cells vs T (0, 0)) ∧ vs.size = 4 ∧ ∀ i d, [D.sl .var ([] : List VarD), D.sl .con ([] : List ConD), dI 0, dI 0][i]? = some d → Rp w (fun b => w0.heap.size ≤ b ∧ b < w.heap.size) (vs.getD i undef) d
  at_ : ∃ T, w.heap[q]? = some (.cells #[.int .i64 a] T (0, 0))
  e : ∃ T, w.heap[r]? = some (.cells #[.int .i64 e] T (0, 0))
theorem catch_den (a e : Int) (Q : Ex → Option HObj → Option HObj → Option HObj → Prop) : den Tryz.prog Ev catchA (sub [1,1,0,1,1] (bodyOf Tryz.f93)) 0 ⟨[(0,.ptr 1000 0),(1,.ptr 1001 0),(2,.ptr 1002 0),(4,.ptr 3000 0)],[(1000,HObj.cells [D.sl .var ([] : List VarD), D.sl .con ([] : List ConD), dI 0, dI 0]),(1001,HObj.cells [dI 0]),(1002,HObj.cells [dI 0]),(3000, HObj.cells [dI a, dI e])]⟩ (fun x σ => Q x (look 1000 σ.hp) (look 1001 σ.hp) (look 1002 σ.hp)) = (fun p : Prop => ((((p) ∧ ((p) ∧ p))) ∧ (((p) ∧ p)) ∧ ((p) ∧ p))) (Q .normal (some (HObj.cells [D.sl .var ([] : List VarD), D.sl .con ([] : List ConD), dI 0, dI 0])) (some (HObj.cells [dI a])) (some (HObj.cells [dI e]))) := by kernel_rfl
theorem nil_sl {w : World} {S : Nat → Prop} (t : Ty) : Rp w S (.slice none 0 0) (.sl t []) :=
  RdC.sl (t := t) ⟨none, 0, rfl, by simp, by simp, by simp, fun _ => rfl, fun hn => absurd hn (by simp)⟩
/-- The fault that is given up by. -/
abbrev flt' (a e : Int) : Value := .iface 158 (.agg #[.int .i64 a, .int .i64 e])
abbrev ptr0 (b : Nat) : Value := .pointer (some ⟨b, 0, none⟩)
theorem catch_tail {a e : Int} {w0 w : World} {act : Act} {p q r k : Nat} {Tp Tq Tr Tk : TypeId} (dz : act.defers = []) (sz : act.tmps.size = 22)
    (t0 : act.tmps.getD 0 undef = ptr0 p) (t1 : act.tmps.getD 1 undef = ptr0 q) (t2 : act.tmps.getD 2 undef = ptr0 r) (t4 : act.tmps.getD 4 undef = ptr0 k)
    (hp : w.heap[p]? = some (.cells #[.slice none 0 0, .slice none 0 0, .int .i64 0, .int .i64 0] Tp (0, 0))) (hq : w.heap[q]? = some (.cells #[.int .i64 0] Tq (0, 0))) (hr : w.heap[r]? = some (.cells #[.int .i64 0] Tr (0, 0)))
    (hk : w.heap[k]? = some (.cells #[.int .i64 a, .int .i64 e] Tk (0, 0))) (ha : inI64 a) (he : inI64 e)
    (lp : p < w0.heap.size) (lq : q < w0.heap.size) (lr : r < w0.heap.size) (lk : w0.heap.size ≤ k) (hpq : p ≠ q) (hpr : p ≠ r) (hqr : q ≠ r)
    (hb : BelowX w0.heap.size (fun b => b = p ∨ b = q ∨ b = r) w0 w) (hg : GOk Tryz.prog w0 (fun b => b = p ∨ b = q ∨ b = r)) :
    (sub [1,1,0,1,1] (bodyOf Tryz.f93)).wp Tryz.prog (fun x a' w' => x = .normal ∧ a'.defers = [] ∧ Caught w0 w' p q r a e) act w := by
  have lt : ∀ {b : Nat} {o : Obj}, w.heap[b]? = some o → b < w.heap.size := fun h => (Array.getElem?_eq_some_iff.1 h).1
  let pl : Nat → Value := fun i => if i = 1000 then ptr0 p else if i = 1001 then ptr0 q else if i = 1002 then ptr0 r else ptr0 k
  let b0 : Base := ⟨w0, fun _ => False, fun b => b = p ∨ b = q ∨ b = r, pl⟩
  let Q : Ex → Option HObj → Option HObj → Option HObj → Prop := fun x m1 m2 m3 => x = .normal ∧ m1 = some (HObj.cells [D.sl .var ([] : List VarD), D.sl .con ([] : List ConD), dI 0, dI 0]) ∧ m2 = some (HObj.cells [dI a]) ∧ m3 = some (HObj.cells [dI e])
  have hden : den Tryz.prog Ev catchA (sub [1,1,0,1,1] (bodyOf Tryz.f93)) 0 ⟨[(0,.ptr 1000 0),(1,.ptr 1001 0),(2,.ptr 1002 0),(4,.ptr 3000 0)],[(1000,HObj.cells [D.sl .var ([] : List VarD), D.sl .con ([] : List ConD), dI 0, dI 0]),(1001,HObj.cells [dI 0]),(1002,HObj.cells [dI 0]),(3000, HObj.cells [dI a, dI e])]⟩ (fun x σ => Q x (look 1000 σ.hp) (look 1001 σ.hp) (look 1002 σ.hp)) := by
    rw [catch_den]
    have h : Q .normal (some (HObj.cells [D.sl .var ([] : List VarD), D.sl .con ([] : List ConD), dI 0, dI 0])) (some (HObj.cells [dI a])) (some (HObj.cells [dI e])) := ⟨rfl, rfl, rfl, rfl⟩
    exact ⟨⟨h, h, h⟩, ⟨h, h⟩, h, h⟩
  have hlook : ∀ j o, look j ([(1000,HObj.cells [D.sl .var ([] : List VarD), D.sl .con ([] : List ConD), dI 0, dI 0]),(1001,HObj.cells [dI 0]),(1002,HObj.cells [dI 0]),(3000, HObj.cells [dI a, dI e])] : List (Nat × HObj)) = some o →
      (j = 1000 ∧ o = HObj.cells [D.sl .var ([] : List VarD), D.sl .con ([] : List ConD), dI 0, dI 0]) ∨ (j = 1001 ∧ o = HObj.cells [dI 0]) ∨ (j = 1002 ∧ o = HObj.cells [dI 0]) ∨ (j = 3000 ∧ o = HObj.cells [dI a, dI e]) := fun j o h => by
    simp only [look_cons] at h
    split at h
    · injection h with h; exact .inl ⟨by omega, h.symm⟩
    split at h
    · injection h with h; exact .inr (.inl ⟨by omega, h.symm⟩)
    split at h
    · injection h with h; exact .inr (.inr (.inl ⟨by omega, h.symm⟩))
    split at h
    · injection h with h; exact .inr (.inr (.inr ⟨by omega, h.symm⟩))
    · cases h
  have hob : ∀ j o b, look j ([(1000,HObj.cells [D.sl .var ([] : List VarD), D.sl .con ([] : List ConD), dI 0, dI 0]),(1001,HObj.cells [dI 0]),(1002,HObj.cells [dI 0]),(3000, HObj.cells [dI a, dI e])] : List (Nat × HObj)) = some o → oblk (pl j) = some b →
      (j = 1000 ∧ b = p) ∨ (j = 1001 ∧ b = q) ∨ (j = 1002 ∧ b = r) ∨ (j = 3000 ∧ b = k) := fun j o b h h2 => by
    rcases hlook j o h with ⟨rfl, _⟩ | ⟨rfl, _⟩ | ⟨rfl, _⟩ | ⟨rfl, _⟩ <;> simp [pl, oblk] at h2 <;> simp [h2]
  have m : MtB Tryz.prog b0 22 ⟨[(0,.ptr 1000 0),(1,.ptr 1001 0),(2,.ptr 1002 0),(4,.ptr 3000 0)],[(1000,HObj.cells [D.sl .var ([] : List VarD), D.sl .con ([] : List ConD), dI 0, dI 0]),(1001,HObj.cells [dI 0]),(1002,HObj.cells [dI 0]),(3000, HObj.cells [dI a, dI e])]⟩ act w (fun _ => False) pl := by
    refine ⟨dz, sz, fun i => ?_, fun j o h => ?_, fun b h => h.elim, fun b h => h.elim, fun j o b h h2 => ?_, fun j j' o o' b h h' h1 h2 => ?_, hb, fun _ _ => rfl, hg⟩
    · show Rd w _ pl _ (D.or (look i [(0,D.ptr 1000 0),(1,.ptr 1001 0),(2,.ptr 1002 0),(4,.ptr 3000 0)]))
      simp only [look_cons]
      split
      · rename_i h; subst h; exact ⟨p, rfl, t0⟩
      split
      · rename_i h; subst h; exact ⟨q, rfl, t1⟩
      split
      · rename_i h; subst h; exact ⟨r, rfl, t2⟩
      split
      · rename_i h; subst h; exact ⟨k, rfl, t4⟩
      · exact rd_undef
    · rcases hlook j o h with ⟨rfl, rfl⟩ | ⟨rfl, rfl⟩ | ⟨rfl, rfl⟩ | ⟨rfl, rfl⟩
      · refine ⟨p, _, _, rfl, hp, rfl, fun i d hd => ?_, fun e => by cases e⟩
        match i, hd with
        | 0, hd => injection hd with hd; subst hd; exact Rp.rd (nil_sl .var)
        | 1, hd => injection hd with hd; subst hd; exact Rp.rd (nil_sl .con)
        | 2, hd => injection hd with hd; subst hd; exact Rp.rd (.int_mk (by unfold inI64; omega))
        | 3, hd => injection hd with hd; subst hd; exact Rp.rd (.int_mk (by unfold inI64; omega))
      · refine ⟨q, _, _, rfl, hq, rfl, fun i d hd => ?_, fun e => by cases e⟩
        match i, hd with
        | 0, hd => injection hd with hd; subst hd; exact Rp.rd (.int_mk (by unfold inI64; omega))
      · refine ⟨r, _, _, rfl, hr, rfl, fun i d hd => ?_, fun e => by cases e⟩
        match i, hd with
        | 0, hd => injection hd with hd; subst hd; exact Rp.rd (.int_mk (by unfold inI64; omega))
      · refine ⟨k, _, _, rfl, hk, rfl, fun i d hd => ?_, fun e => by cases e⟩
        match i, hd with
        | 0, hd => injection hd with hd; subst hd; exact Rp.rd (.int_mk ha)
        | 1, hd => injection hd with hd; subst hd; exact Rp.rd (.int_mk he)
    · rcases hob j o b h h2 with ⟨_, rfl⟩ | ⟨_, rfl⟩ | ⟨_, rfl⟩ | ⟨_, rfl⟩
      · exact ⟨.inl (.inl rfl), lt hp, id⟩
      · exact ⟨.inl (.inr (.inl rfl)), lt hq, id⟩
      · exact ⟨.inl (.inr (.inr rfl)), lt hr, id⟩
      · exact ⟨.inr lk, lt hk, id⟩
    · rcases hob j o b h h1 with ⟨rfl, e1⟩ | ⟨rfl, e1⟩ | ⟨rfl, e1⟩ | ⟨rfl, e1⟩ <;> rcases hob j' o' b h' h2 with ⟨rfl, e2⟩ | ⟨rfl, e2⟩ | ⟨rfl, e2⟩ | ⟨rfl, e2⟩ <;> first | rfl | (exfalso; subst e1; omega)
  refine wp_mono (den_wp factsEv (A := catchA) (b0 := b0) _ 0 _ _ act w hden ⟨_, _, m⟩) fun x a' w' h => ?_
  rcases h with ⟨x', σ, hx, ⟨rfl, h1, h2, h3⟩, S', pl', m'⟩ | ⟨u, σ, _, ⟨h, _⟩, _⟩
  · have hx : x = .normal := by cases x <;> simp [exOf] at hx ⊢
    refine ⟨hx, m'.dz, m'.below, ?_, ?_, ?_⟩
    · obtain ⟨b, vs, T, e1, e2, e3, e4, _⟩ := m'.hp _ _ h1
      have : pl' 1000 = ptr0 p := m'.stay 1000 rfl
      rw [this] at e1; injection e1 with e1; injection e1 with e1; injection e1 with e1; subst e1
      refine ⟨vs, T, e2, e3, fun i d hd => ?_⟩
      have := e4 i d hd
      have hf : d.ref = none := by
        match i, hd with
        | 0, hd => injection hd with hd; subst hd; rfl
        | 1, hd => injection hd with hd; subst hd; rfl
        | 2, hd => injection hd with hd; subst hd; rfl
        | 3, hd => injection hd with hd; subst hd; rfl
      refine (this.flat hf).mono (fun _ _ => rfl) fun b hS => ⟨?_, m'.lt b hS⟩
      rcases m'.src b hS with h | h | h
      · exact h.elim
      · exfalso
        have : ∃ j o, look j σ.hp = some o ∧ oblk (pl' j) = some b := by
          rcases h with rfl | rfl | rfl
          · exact ⟨1000, _, h1, by rw [m'.stay 1000 rfl]; rfl⟩
          · exact ⟨1001, _, h2, by rw [m'.stay 1001 rfl]; rfl⟩
          · exact ⟨1002, _, h3, by rw [m'.stay 1002 rfl]; rfl⟩
        obtain ⟨j, o, q1, q2⟩ := this
        exact (m'.priv j o b q1 q2).2.2 hS
      · exact h
    · obtain ⟨b, vs, T, e1, e2, e3, e4, _⟩ := m'.hp _ _ h2
      have : pl' 1001 = ptr0 q := m'.stay 1001 rfl
      rw [this] at e1; injection e1 with e1; injection e1 with e1; injection e1 with e1; subst e1
      have h0 := ((e4 0 _ rfl).flat (d := dI a) rfl).int_inv.1
      refine ⟨T, ?_⟩
      rw [e2]
      congr 2
      have e3 : vs.size = 1 := e3
      apply Array.ext
      · simpa using e3
      · intro i i1 i2
        have : i = 0 := by omega
        subst this
        rw [Array.getD_eq_getD_getElem?, Array.getElem?_eq_getElem i1] at h0
        simpa using h0
    · obtain ⟨b, vs, T, e1, e2, e3, e4, _⟩ := m'.hp _ _ h3
      have : pl' 1002 = ptr0 r := m'.stay 1002 rfl
      rw [this] at e1; injection e1 with e1; injection e1 with e1; injection e1 with e1; subst e1
      have h0 := ((e4 0 _ rfl).flat (d := dI e) rfl).int_inv.1
      refine ⟨T, ?_⟩
      rw [e2]
      congr 2
      have e3 : vs.size = 1 := e3
      apply Array.ext
      · simpa using e3
      · intro i i1 i2
        have : i = 0 := by omega
        subst this
        rw [Array.getD_eq_getD_getElem?, Array.getElem?_eq_getElem i1] at h0
        simpa using h0
  · cases h
set_option maxRecDepth 100000 in
theorem text_catch_idle (p q r : Nat) (w : World) : CallsD Tryz.prog 93 #[ptr0 p, ptr0 q, ptr0 r] .returning w fun en u' w' => en = .returned (.tuple #[]) ∧ u' = .returning ∧ w' = w := by
  refine callsD_of_wpS Tryz.func93 rfl fun c₀ cs hu => ?_
  apply wpS_seq
  apply wpS_region
  simp [wpOpsS, go_sem, recoverD, hu, Tryz.ntmps93, Exit.thenS]
  apply wpS_seq
  apply wpS_region
  simp [wpOpsS, go_sem, Exit.thenS]
  refine wpS_cond (t := false) (by simp [Act.eval, Array.replicate]) ?_
  simp only [Bool.false_eq_true, if_false]
  refine wpS_of_wp (wp_skip ?_)
  cases c₀
  simp_all [bodyPostS, results, Tryz.results93, Exit.thenS]
set_option maxRecDepth 100000 in
theorem text_catch_pan {a e : Int} (ha : inI64 a) (he : inI64 e) (p q r : Nat) (w : World) {Tp Tq Tr : TypeId}
    (hp : w.heap[p]? = some (.cells #[.slice none 0 0, .slice none 0 0, .int .i64 0, .int .i64 0] Tp (0, 0))) (hq : w.heap[q]? = some (.cells #[.int .i64 0] Tq (0, 0))) (hr : w.heap[r]? = some (.cells #[.int .i64 0] Tr (0, 0)))
    (hpq : p ≠ q) (hpr : p ≠ r) (hqr : q ≠ r) (hg : GOk Tryz.prog w (fun b => b = p ∨ b = q ∨ b = r)) :
    CallsD Tryz.prog 93 #[ptr0 p, ptr0 q, ptr0 r] (.panicking [{ v := flt' a e, recovered := false }]) w fun en u' w' => en = .returned (.tuple #[]) ∧ u' = .panicking [{ v := flt' a e, recovered := true }] ∧ Caught w w' p q r a e := by
  refine callsD_of_wpS Tryz.func93 rfl fun c₀ cs hu => ?_
  have hta : ∀ w : World, (Instr.typeAssert (.iface 158 (.agg #[.int .i64 a, .int .i64 e])) 20 158 true).run Tryz.prog w = .ok (.tuple #[.agg #[.int .i64 a, .int .i64 e], .bool true]) w := fun _ => by kernel_rfl
  simp only [Tryz.ntmps93, List.size_toArray, List.length_cons, List.length_nil, Nat.reduceAdd, Nat.reduceSub, Array.replicate_succ, Array.replicate_zero, List.push_toArray, List.append_toArray, List.nil_append, List.cons_append]
  apply wpS_seq
  apply wpS_region
  simp [wpOpsS, go_sem, recoverD, hu, Exit.thenS]
  apply wpS_seq
  apply wpS_region
  simp [wpOpsS, go_sem, Exit.thenS]
  refine wpS_cond (t := true) (by simp [Act.eval]) ?_
  simp only [if_true]
  refine wpS_of_wp ?_
  refine wp_seq ?_
  refine wp_mono (Q := fun x a' w' => x = .normal ∧ a' = ⟨#[ptr0 p, ptr0 q, ptr0 r, flt' a e, ptr0 w.heap.size, .bool true, flt' a e, flt' a e, .bool true, (.tuple #[.agg #[.int .i64 a, .int .i64 e], .bool true]), flt' a e, (.tuple #[.agg #[.int .i64 a, .int .i64 e], .bool true]), (.agg #[.int .i64 a, .int .i64 e]), .bool true, undef, undef, undef, undef, undef, undef, undef, undef], []⟩ ∧ w' = w.alloc (.cells #[.int .i64 a, .int .i64 e] 158)) ?_ ?_
  · go_wp2_with fail
  rintro x a' w' ⟨rfl, rfl, rfl⟩
  refine wp_seq ?_
  refine wp_mono (Q := fun x a1 w1 => x = .normal ∧ a1 = ⟨#[ptr0 p, ptr0 q, ptr0 r, flt' a e, ptr0 w.heap.size, .bool true, flt' a e, flt' a e, .bool true, (.tuple #[.agg #[.int .i64 a, .int .i64 e], .bool true]), flt' a e, (.tuple #[.agg #[.int .i64 a, .int .i64 e], .bool true]), (.agg #[.int .i64 a, .int .i64 e]), .bool true, .bool true, .bool false, undef, undef, undef, undef, undef, undef], []⟩ ∧ w1 = w.alloc (.cells #[.int .i64 a, .int .i64 e] 158)) ?_ ?_
  · go_wp2_with fail
  rintro x a1 w1 ⟨rfl, rfl, rfl⟩
  have hb : Below w.heap.size w (w.alloc (.cells #[.int .i64 a, .int .i64 e] 158)) := by (repeat' (first | (with_reducible exact Below.refl _ _) | (with_reducible assumption) | (with_reducible refine below_drewN ?_ _) | (with_reducible refine Below.alloc ?_ ?_ _) | (with_reducible refine Below.setCell ?_ ?_ _) | (with_reducible refine Below.drew ?_) | go_size))
  have hk : (w.alloc (.cells #[.int .i64 a, .int .i64 e] 158)).heap[w.heap.size]? = some (.cells #[.int .i64 a, .int .i64 e] 158 (0, 0)) := by unfold World.alloc; simp
  have lt : ∀ {b : Nat} {o : Obj}, w.heap[b]? = some o → b < w.heap.size := fun h => (Array.getElem?_eq_some_iff.1 h).1
  refine wp_mono (catch_tail rfl rfl rfl rfl rfl rfl ((hb.block _ (lt hp)).trans hp) ((hb.block _ (lt hq)).trans hq) ((hb.block _ (lt hr)).trans hr) hk ha he (lt hp) (lt hq) (lt hr) (Nat.le_refl _) hpq hpr hqr (.of hb) hg) ?_
  rintro x a2 w2 ⟨rfl, dz, hc⟩
  refine ⟨dz, _, rfl, .tuple #[], ?_, rfl, rfl, hc⟩
  simp [results, Tryz.results93]
end Go.Proofs.YtogdmcebojiojaaGreatDoor

/- The document's parser: a whole text: printed by gen_pread8.py. -/
namespace Go.Proofs.YtogdmcebojiojaaGreatDoor
open Go.RowKit
set_option linter.unusedVariables false
set_option linter.unusedSimpArgs false

def goW : List ByteArray := [⟨#[97, 110, 121]⟩, ⟨#[108, 101, 97, 115, 116]⟩, ⟨#[109, 111, 115, 116]⟩]
/-- What is answered of a model that was read. -/
def finM (m : MdlD) : MdlD × Int × Int := if checkM m = 0 then (m, 0, 0) else (mEmpty, 0, checkM m)
def parseT (l : List Tok) (en : Int) : MdlD × Int × Int := match modelP isNameS numV l with
  | .ok (m, _) _ => finM m
  | .err j e => (mEmpty, hereP l en j, e)
theorem lkey_str : LKey .str := fun a b => decide_eq_true_iff
theorem ixName_snoc {s : ByteArray} {v : VarD} : ∀ (vs : List VarD) (i : Int), ixName s (vs ++ [v]) i = match ixName s vs i with
    | some n => some n
    | none => if v.name = s then some (i + vs.length) else none
  | [], i => by
    simp only [List.nil_append, ixName]
    split
    · rw [List.length_nil]; congr 1; omega
    · rfl
  | u :: r, i => by
    rw [List.cons_append, ixName, ixName]
    split
    · rfl
    · rw [ixName_snoc r (i + 1)]
      cases ixName s r (i + 1) with
      | some n => rfl
      | none =>
        simp only [List.length_cons]
        split
        · congr 1; omega
        · rfl
theorem names_step {vs : List VarD} {ns : List (ByteArray × Int)} {v : VarD} (hN : ∀ s, mget .str .int s ns = ixName s vs 0) (s : ByteArray) : mget .str .int s (addName ns v.name vs.length) = ixName s (vs ++ [v]) 0 := by
  rw [ixName_snoc, ← hN s, addName, mhas]
  cases hm : mget .str .int v.name ns with
  | some n =>
    rw [if_pos Option.isSome_some]
    cases hs : mget .str .int s ns with
    | some k => rfl
    | none =>
      simp only
      rw [if_neg]
      intro e
      rw [e, hs] at hm; cases hm
  | none =>
    rw [if_neg (by decide)]
    by_cases e : s = v.name
    · subst e
      rw [mget_same (kt := .str) (vt := .int) lkey_str, hm]
      show some (vs.length : Int) = if _ then some (0 + (vs.length : Int)) else none
      rw [if_pos rfl, Int.zero_add]
    · rw [mget_other (kt := .str) (vt := .int) lkey_str e]
      cases mget .str .int s ns with
      | some k => rfl
      | none => simp only; rw [if_neg fun x => e x.symm]
section
variable {l : List Tok} {en : Int} {pv : List VarD} {names : List (ByteArray × Int)} {R : D → Prop}
theorem goalP_eq {j : Nat} : goalP isNameS l names j = (needP l [⟨#[115, 111, 108, 118, 101]⟩] j).bind fun _ j => (wordR l goW j).bind fun o j => if o = 0 then lastP l (0, 0) j else (vP isNameS names l j).bind fun v j => lastP l (o, v) j := by
  unfold goalP
  congr 1; funext _ j
  simp only [wordR, goW, wordP]
  cases h1 : takeB l ⟨#[97, 110, 121]⟩ j with
  | true => rfl
  | false =>
    cases h2 : takeB l ⟨#[108, 101, 97, 115, 116]⟩ j with
    | true => rfl
    | false =>
      cases h3 : takeB l ⟨#[109, 111, 115, 116]⟩ j with
      | true => simp only [needP, h3]; rfl
      | false => simp only [needP, h3]; rfl
/-- A variable behind its name. -/
def varB (l : List Tok) (s : ByteArray) (j : Nat) : Pr VarD := (needP l [⟨#[58]⟩] j).bind fun _ j => (kP numV l j).bind fun a j => (needP l [⟨#[46, 46]⟩] j).bind fun _ j => (kP numV l j).bind fun b j => (needP l [⟨#[59]⟩] j).bind fun _ j => .ok ⟨s, a, b⟩ j
end
end Go.Proofs.YtogdmcebojiojaaGreatDoor

/- Errors of texts are few: printed out of the reader's texts (see NOTES.md). -/
namespace Go.Proofs.YtogdmcebojiojaaGreatDoor
open Go.RowKit
set_option linter.unusedVariables false
set_option linter.unusedSimpArgs false

/-- What goes wrong has a small number. -/
def ErrB {α : Type} (f : Nat → Pr α) : Prop := ∀ i j e, f i = .err j e → e = 1 ∨ e = 5
section
variable {l : List Tok} {names : List (ByteArray × Int)}
theorem errB_v : ErrB (vP isNameS names l) := fun i j e h => by
  unfold vP nameP at h
  split at h
  · simp only [Pr.bind] at h
    split at h
    · cases h
    · injection h with h1 h2; subst h2; decide
  · injection h with h1 h2; subst h2; decide
theorem errB_k {nv : ByteArray → Int} : ErrB (kP nv l) := fun i j e h => by
  unfold kP digP at h
  split at h <;> split at h <;> first | (cases h; done) | (injection h with _ h; subst h; decide)
theorem errB_listR {α : Type} {f : Nat → Pr α} (hf : ErrB f) : ∀ (n : Nat) (acc : List α), ErrB (listR l f n acc)
  | 0, acc => fun i j e h => by rw [listR] at h; injection h with _ h; subst h; decide
  | n + 1, acc => fun i j e h => by
    rw [listR] at h
    split at h
    · cases hv : f (i + 1) with
      | ok x k => rw [hv] at h; exact errB_listR hf n _ _ _ _ h
      | err k e' => rw [hv] at h; injection h with _ h; subst h; exact hf _ _ _ hv
    · rw [needP, needP] at h
      split at h
      · cases h
      · injection h with _ h; subst h; decide
theorem errB_list {α : Type} {f : Nat → Pr α} (hf : ErrB f) : ErrB (listP l f) := fun i j e h => by
  rw [listP_more1] at h
  split at h
  · split at h
    · cases h
    · cases hv : f (i + 1) with
      | ok x k => rw [hv] at h; exact errB_listR hf _ _ _ _ _ h
      | err k e' => rw [hv] at h; injection h with _ h; subst h; exact hf _ _ _ hv
  · injection h with _ h; subst h; decide
theorem errB_word {ss : List ByteArray} : ErrB (wordR l ss) := fun i j e h => by
  unfold wordR at h
  split at h
  · cases h
  · injection h with _ h; subst h; decide
theorem errB_bind {α β : Type} {f : Nat → Pr α} {g : α → Nat → Pr β} (hf : ErrB f) (hg : ∀ x, ErrB (g x)) : ErrB (fun j => (f j).bind g) := fun i j e h => by
  cases hv : f i with
  | ok x k => simp only [hv, Pr.bind] at h; exact hg _ _ _ _ h
  | err k e' => simp only [hv, Pr.bind] at h; injection h with _ h; subst h; exact hf _ _ _ hv
theorem errB_ok {α : Type} {x : α} {f : Nat → Nat} : ErrB (fun j => Pr.ok x (f j)) := fun i j e h => by cases h
theorem errB_lit : ErrB (litP isNameS numV names l) := fun i j e h => by
  rw [litP_eq] at h
  exact errB_bind errB_v (fun v => errB_bind errB_word fun o => errB_bind errB_k fun n => errB_ok) _ _ _ h
theorem errB_some : ∀ (n : Nat) (acc : List Int), ErrB (someP isNameS names l n acc)
  | 0, acc => fun i j e h => by cases h
  | n + 1, acc => fun i j e h => by
    rw [someP] at h
    exact errB_bind (errB_v (names := names) (l := l)) (fun x => errB_some n _) _ _ _ h
theorem errB_need {s : ByteArray} : ErrB (needP l [s]) := fun i j e h => by
  rw [needP, needP] at h
  split at h
  · cases h
  · injection h with _ h; subst h; decide
theorem errB_conB {o : Int} : ErrB (conB isNameS numV names l o) := fun i j e h => by
  unfold conB at h
  split at h
  · exact errB_bind (errB_list errB_k) (fun _ => errB_bind (errB_list errB_v) fun _ => errB_bind errB_k fun _ => errB_ok (f := fun j => j)) _ _ _ h
  split at h
  · exact errB_bind (errB_list errB_v) (fun _ => errB_ok (f := fun j => j)) _ _ _ h
  split at h
  · exact errB_bind (errB_list errB_k) (fun _ => errB_bind (errB_some 2 []) fun _ => errB_ok (f := fun j => j)) _ _ _ h
  split at h
  · exact errB_bind (errB_list errB_v) (fun _ => errB_bind (errB_list (errB_list errB_k)) fun _ => errB_ok (f := fun j => j)) _ _ _ h
  split at h
  · exact errB_bind (errB_some 3 []) (fun _ => errB_ok (f := fun j => j)) _ _ _ h
  split at h
  · exact errB_bind errB_v (fun _ => errB_bind (errB_list errB_v) fun _ => errB_ok (f := fun j => j)) _ _ _ h
  split at h
  · exact errB_bind (errB_list errB_lit) (fun _ => errB_ok (f := fun j => j)) _ _ _ h
  · exact errB_bind (errB_some 1 []) (fun _ => errB_bind errB_lit fun _ => errB_ok (f := fun j => j)) _ _ _ h
theorem errB_con : ErrB (conP isNameS numV names l) := fun i j e h => by
  rw [conP_eq] at h
  exact errB_bind errB_word (fun o => errB_conB) _ _ _ h
theorem errB_varB {s : ByteArray} : ErrB (varB l s) := errB_bind errB_need fun _ => errB_bind errB_k fun a => errB_bind errB_need fun _ => errB_bind errB_k fun b => errB_bind errB_need fun _ => errB_ok (f := fun j => j)
theorem errB_var : ErrB (varP isNameS numV l) := fun i j e h => by
  rw [varP, nameP] at h
  split at h
  · exact errB_varB _ _ _ h
  · injection h with _ h; subst h; decide
theorem errB_vars : ∀ (n : Nat) (vs : List VarD) (ns : List (ByteArray × Int)), ErrB (varsR isNameS numV l n vs ns)
  | 0, vs, ns => fun i j e h => by rw [varsR] at h; injection h with _ h; subst h; decide
  | n + 1, vs, ns => fun i j e h => by
    rw [varsR] at h
    split at h
    · exact errB_bind (errB_var (l := l)) (fun v => errB_vars n _ _) _ _ _ h
    · cases h
theorem errB_cons : ∀ (n : Nat) (cs : List ConD), ErrB (consR isNameS numV l names n cs)
  | 0, cs => fun i j e h => by rw [consR] at h; injection h with _ h; subst h; decide
  | n + 1, cs => fun i j e h => by
    rw [consR] at h
    split at h
    · exact errB_bind (errB_con (l := l) (names := names)) (fun c => errB_bind errB_need fun _ => errB_cons n _) _ _ _ h
    · cases h
theorem errB_last {x : Int × Int} : ErrB (lastP l x) := fun i j e h => by
  rw [lastP] at h
  refine errB_bind (errB_need (l := l) (s := ⟨#[59]⟩)) (fun _ => ?_) _ _ _ h
  intro i j e h
  have h : (if i < l.length then Pr.err i 1 else Pr.ok x i) = Pr.err j e := h
  split at h
  · injection h with _ h; subst h; decide
  · cases h
theorem errB_goal : ErrB (goalP isNameS l names) := fun i j e h => by
  rw [goalP_eq] at h
  refine errB_bind (errB_need (l := l)) (fun _ => errB_bind (errB_word (l := l)) fun o => ?_) _ _ _ h
  intro i j e h
  have h : (if o = 0 then lastP l (0, 0) i else (vP isNameS names l i).bind fun v j => lastP l (o, v) j) = Pr.err j e := h
  split at h
  · exact errB_last _ _ _ h
  · exact errB_bind (errB_v (l := l) (names := names)) (fun v => errB_last) _ _ _ h
theorem errB_model {j : Nat} {e : Int} (h : modelP isNameS numV l = .err j e) : e = 1 ∨ e = 5 := by
  rw [modelP] at h
  exact errB_bind (errB_vars (l := l) _ [] []) (fun x => errB_bind (errB_cons (l := l) (names := x.2) _ []) fun cs => errB_bind (errB_goal (l := l) (names := x.2)) fun g => errB_ok (f := fun j => j)) _ _ _ h
theorem here_i64 {w : World} {S : Nat → Prop} {pl : Nat → Value} {en goal mvar : Int} {pv : List VarD} {pc : List ConD} {i : Nat} (hh : HOk w S pl (hpP l en goal mvar pv pc names i)) (j : Nat) : inI64 (hereP l en j) := by
  have h := ob_ok (hh.ok 1000 _ rfl)
  unfold hereP
  split
  · rename_i hj
    have h1 := h (.sl .tok l) (by simp)
    exact (h1.2 _ (tok_mem hj)).2.1
  · exact h (dI en) (by simp)
end
end Go.Proofs.YtogdmcebojiojaaGreatDoor
