/- Texts of this proof, one behind the other: nothing is handed in but what is proved here; no condition. -/
import Derived.Test.YtogdmcebojiojaaGreatDoorMA
import Derived.Test.YtogdmcebojiojaaGreatDoorProg
import Derived.Shelf.Strings.Builder1
import Derived.Shelf.Strings.Builder2
import Derived.Shelf.Strings.OnBuilder
import Derived.Shelf.Small.Bits
import Derived.Shelf.Small.Strs
import Derived.Shelf.Small.Wraps
import Derived.Shelf.Strings.BuilderF
import Derived.Shelf.Strings.BuilderK
import Derived.Shelf.Strings.Builder2Cap
import Derived.Shelf.Strconv.Atoi
import Derived.Shelf.Strconv.Itoa0
import Derived.Shelf.Strconv.Itoa1
import Derived.Shelf.LaysM
import Derived.Shelf.Strconv.Itoa2
import Derived.Shelf.Strconv.Itoa3
import Derived.Shelf.Strings.Search1
import Derived.Shelf.Sort.Plain
import Derived.Shelf.Strings.Prefix
import Derived.Shelf.Strings.BuilderCap
import Derived.Shelf.Slices.Turned
import Derived.Shelf.Slices.Equal
import Derived.Ground.Names2Prog
import Derived.Shelf.Slices.Clone
import Derived.Shelf.Slices.CompactI
import Derived.Shelf.Slices.SearchI
import Derived.Shelf.Slices.Cells
import Derived.Shelf.Slices.In.SortNone
import Derived.Shelf.Slices.Empties2
/- What tokens are, in plain Lean: no program in sight. -/
namespace Go.Proofs.YtogdmcebojiojaaGreatDoor
set_option linter.unusedVariables false

def isLN (n : Nat) : Bool := decide (97 ≤ n) && decide (n ≤ 122)
def isDN (n : Nat) : Bool := decide (48 ≤ n) && decide (n ≤ 57)
def isL (c : UInt8) : Bool := isLN c.toNat
def isD (c : UInt8) : Bool := isDN c.toNat
def isW (c : UInt8) : Bool := isL c || isD c

/-- Is it one of the two-sign signs? -/
def isTwo : List UInt8 → Bool
  | a :: b :: _ => (a == 46 && b == 46) || (a == 60 && b == 61) || (a == 62 && b == 61) || (a == 61 && b == 61) || (a == 33 && b == 61)
  | _ => false
def isSign (c : UInt8) : Bool := c == 91 || c == 93 || c == 59 || c == 58 || c == 44 || c == 45

/-- Kind and length of the token that begins here; (0, 0): none. -/
def tokenAt : List UInt8 → Nat × Nat
  | [] => (0, 0)
  | c :: r =>
    if isL c then (1, 1 + (r.takeWhile isW).length)
    else if isD c then (2, 1 + (r.takeWhile isD).length)
    else if isTwo (c :: r) then (3, 2)
    else if isSign c then (3, 1)
    else (0, 0)

def blank (c : UInt8) : Bool := c == 32 || c == 9 || c == 10
def bs (l : List UInt8) : ByteArray := ⟨l.toArray⟩

/-- What is wrong with a token: 0: nothing. -/
def tokBad (k n : Nat) (c : UInt8) : Int :=
  if k = 0 then 1 else if k = 1 ∧ n > 12 ∨ k = 2 ∧ n > 4 then 2 else if k = 2 ∧ n > 1 ∧ c = 48 then 1 else 0

/-- The scan, byte by byte: 'skip': so many bytes of the token at hand are still to be passed; 'note': in a remark. -/
def scanR : List UInt8 → Nat → Bool → List Tok → Nat → List Tok × Int × Int
  | [], _, _, out, _ => (out, 0, 0)
  | _ :: r, i, note, out, k + 1 => scanR r (i + 1) note out k
  | c :: r, i, note, out, 0 =>
    if note || c == 37 then scanR r (i + 1) (c != 10) out 0
    else if blank c then scanR r (i + 1) false out 0
    else
      let kn := tokenAt (c :: r)
      if tokBad kn.1 kn.2 c = 0 then scanR r (i + 1) false (out ++ [⟨kn.1, i, bs ((c :: r).take kn.2)⟩]) (kn.2 - 1)
      else ([], i, tokBad kn.1 kn.2 c)

/-- Scan. -/
def scanS (l : List UInt8) : List Tok × Int × Int := if l.length > 4000 then ([], 0, 2) else scanR l 0 false [] 0

theorem scanR_skip : ∀ (l : List UInt8) (i : Nat) (note : Bool) (out : List Tok) (k : Nat), k ≤ l.length → scanR l i note out k = scanR (l.drop k) (i + k) note out 0
  | l, i, note, out, 0, _ => by simp
  | [], i, note, out, k + 1, h => by simp at h
  | c :: r, i, note, out, k + 1, h => by
    rw [scanR, scanR_skip r (i + 1) note out k (by simpa using h), List.drop_succ_cons]
    congr 1; omega

theorem tokenAt_le : ∀ (l : List UInt8), (tokenAt l).2 ≤ l.length
  | [] => by simp [tokenAt]
  | c :: r => by
    have h1 : (r.takeWhile isW).length ≤ r.length := (List.takeWhile_sublist _).length_le
    have h2 : (r.takeWhile isD).length ≤ r.length := (List.takeWhile_sublist _).length_le
    simp only [tokenAt]
    split
    · simp; omega
    · split
      · simp; omega
      · split
        · rename_i h
          cases r with
          | nil => simp [isTwo] at h
          | cons d r => simp
        · split <;> simp
theorem tokenAt_pos (l : List UInt8) (h : (tokenAt l).1 ≠ 0) : 1 ≤ (tokenAt l).2 := by
  cases l with
  | nil => simp [tokenAt] at h
  | cons c r =>
    revert h
    simp only [tokenAt]
    split
    · simp
    · split
      · simp
      · split
        · simp
        · split <;> simp
theorem tokenAt_kind (l : List UInt8) : (tokenAt l).1 ≤ 3 := by
  cases l with
  | nil => simp [tokenAt]
  | cons c r =>
    simp only [tokenAt]
    split
    · simp
    · split
      · simp
      · split
        · simp
        · split <;> simp

/-- How far blanks and remarks go. -/
def skipN : List UInt8 → Bool → Nat
  | [], _ => 0
  | c :: r, true => if c == 10 then 1 + skipN r false else 1 + skipN r true
  | c :: r, false => if c == 37 then 1 + skipN r true else if blank c then 1 + skipN r false else 0

theorem skipN_le : ∀ (l : List UInt8) (note : Bool), skipN l note ≤ l.length
  | [], _ => by simp [skipN]
  | c :: r, true => by
    have h1 := skipN_le r false; have h2 := skipN_le r true
    unfold skipN; split <;> simp <;> omega
  | c :: r, false => by
    have h1 := skipN_le r false; have h2 := skipN_le r true
    unfold skipN; split
    · simp; omega
    · split <;> simp; omega

theorem scanR_blanks : ∀ (l : List UInt8) (i : Nat) (note : Bool) (out : List Tok), scanR l i note out 0 = scanR (l.drop (skipN l note)) (i + skipN l note) false out 0
  | [], i, note, out => by simp [skipN, scanR]
  | c :: r, i, true, out => by
    rw [scanR, if_pos (by simp), skipN]
    by_cases h : c = 10
    · subst h
      rw [scanR_blanks r (i + 1) _ out, if_pos (by simp)]
      simp only [bne_self_eq_false, Nat.add_comm 1, List.drop_succ_cons]
      congr 1; omega
    · have hb : (c != 10) = true := by simpa using h
      rw [if_neg (by simpa using h), hb, scanR_blanks r (i + 1) true out]
      simp only [Nat.add_comm 1, List.drop_succ_cons]
      congr 1; omega
  | c :: r, i, false, out => by
    by_cases h : c = 37
    · subst h
      rw [scanR, if_pos (by simp), skipN, if_pos (by simp), scanR_blanks r (i + 1) _ out]
      have : ((37 : UInt8) != 10) = true := by decide
      simp only [this, Nat.add_comm 1, List.drop_succ_cons]
      congr 1; omega
    · by_cases hb : blank c = true
      · rw [scanR, if_neg (by simpa using h), if_pos hb, skipN, if_neg (by simpa using h), if_pos hb, scanR_blanks r (i + 1) false out]
        simp only [Nat.add_comm 1, List.drop_succ_cons]
        congr 1; omega
      · have : skipN (c :: r) false = 0 := by rw [skipN, if_neg (by simpa using h), if_neg hb]
        rw [this]; simp
/-- Behind the blanks nothing is a blank. -/
theorem skipN_next : ∀ (l : List UInt8) (note : Bool) (c : UInt8) (r : List UInt8), l.drop (skipN l note) = c :: r → c ≠ 37 ∧ blank c = false
  | [], note, c, r, h => by simp [skipN] at h
  | a :: l, true, c, r, h => by
    unfold skipN at h
    split at h
    · rw [Nat.add_comm, List.drop_succ_cons] at h; exact skipN_next l false c r h
    · rw [Nat.add_comm, List.drop_succ_cons] at h; exact skipN_next l true c r h
  | a :: l, false, c, r, h => by
    unfold skipN at h
    split at h
    · rw [Nat.add_comm, List.drop_succ_cons] at h; exact skipN_next l true c r h
    · split at h
      · rw [Nat.add_comm, List.drop_succ_cons] at h; exact skipN_next l false c r h
      · rename_i h1 h2
        simp at h
        obtain ⟨rfl, rfl⟩ := h
        exact ⟨by simpa using h1, by simpa using h2⟩

/-- One token of a text, and no more. -/
def isTok (kind : Int) (l : List UInt8) : Bool :=
  match l with
  | [] => false
  | c :: r => decide (l.length ≤ 4000) && decide (((tokenAt (c :: r)).1 : Int) = kind) && decide ((tokenAt (c :: r)).2 = l.length) && decide (tokBad (tokenAt (c :: r)).1 (tokenAt (c :: r)).2 c = 0)

end Go.Proofs.YtogdmcebojiojaaGreatDoor

/- What the document says of models, in plain Lean. -/
namespace Go.Proofs.YtogdmcebojiojaaGreatDoor
open Go.RowKit
set_option linter.unusedVariables false

def inR (n a b : Int) : Bool := decide (a ≤ n) && decide (n ≤ b)
theorem inR_false {n a b : Int} : inR n a b = false ↔ n < a ∨ b < n := by
  unfold inR
  rw [Bool.and_eq_false_iff]; simp
def wordsL : List ByteArray := [bs [118, 97, 114], bs [99, 111, 110], bs [115, 111, 108, 118, 101], bs [108, 101], bs [101, 113], bs [110, 101], bs [100, 105, 102, 102, 101, 114], bs [101, 108, 101, 109, 101, 110, 116], bs [116, 97, 98, 108, 101], bs [116, 105, 109, 101, 115], bs [109, 97, 120], bs [99, 108, 97, 117, 115, 101], bs [105, 102, 102], bs [97, 110, 121], bs [108, 101, 97, 115, 116], bs [109, 111, 115, 116]]
def isNameS (s : ByteArray) : Bool := isTok 1 s.data.toList && !wordsL.any (fun u => u.toList == s.toList)

/-- The first error of a row's. -/
def firstE {α : Type} (f : Nat → α → Int) : Nat → List α → Int
  | _, [] => 0
  | i, x :: xs => if f i x = 0 then firstE f (i + 1) xs else f i x
theorem firstE_end {α : Type} {f : Nat → α → Int} {i k : Nat} {xs : List α} {E : Int} (hk : xs.length ≤ k) (h : firstE f i (xs.drop k) = E) : E = 0 := by
  rw [List.drop_eq_nil_of_le hk] at h; exact h.symm
theorem firstE_stop {α : Type} {f : Nat → α → Int} {i k : Nat} {xs : List α} {E : Int} (hk : k < xs.length) (h : firstE f i (xs.drop k) = E) (h0 : f i xs[k] ≠ 0) : E = f i xs[k] := by
  rw [List.drop_eq_getElem_cons hk, firstE, if_neg h0] at h; exact h.symm
theorem firstE_next {α : Type} {f : Nat → α → Int} {i k : Nat} {xs : List α} {E : Int} (hk : k < xs.length) (h : firstE f i (xs.drop k) = E) (h0 : f i xs[k] = 0) : firstE f (i + 1) (xs.drop (k + 1)) = E := by
  rw [List.drop_eq_getElem_cons hk, firstE, if_pos h0] at h; exact h
theorem firstE_zero {α : Type} {f : Nat → α → Int} : ∀ (xs : List α) (i : Nat), firstE f i xs = 0 → ∀ (j : Nat) (hj : j < xs.length), f (i + j) xs[j] = 0
  | [], i, _, j, hj => absurd hj (Nat.not_lt_zero _)
  | x :: xs, i, h, j, hj => by
    rw [firstE] at h
    by_cases h0 : f i x = 0
    · rw [if_pos h0] at h
      cases j with
      | zero => exact h0
      | succ j => have := firstE_zero xs (i + 1) h j (by simpa using hj); rw [show i + (j + 1) = i + 1 + j by omega]; simpa using this
    · rw [if_neg h0] at h; exact absurd h h0

/-- What is wrong with a variable behind others. -/
def varE (ahead : List VarD) (v : VarD) : Int :=
  if isNameS v.name = false then 1
  else if (ahead.any fun u => u.name.toList == v.name.toList) = true then 6
  else if (!inR v.lo (-50) 50 || !inR v.hi (-50) 50 || decide (v.hi < v.lo)) = true then 3
  else if 6 ≤ v.hi - v.lo then 2 else 0
def varsE (l : List VarD) : Int := firstE (fun i v => varE (l.take i) v) 0 l

def farB (n : Int) : Bool := !inR n (-1000) 1000
def noneB (nv : Nat) (v : Int) : Bool := !inR v 0 ((nv : Int) - 1)
/-- What is wrong with a literal, of so many variables. -/
def litE (nv : Nat) (l : LitD) : Int := if noneB nv l.var = true then 5 else if inR l.op 1 4 = false then 7 else if farB l.n = true then 3 else 0
def formB (c : ConD) : Bool :=
  let v := c.vars.length; let k := c.consts.length; let r := c.rows.length; let l := c.lits.length
  if 3 < c.kind ∧ c.n ≠ 0 then false
  else if c.kind = 1 ∨ c.kind = 2 ∨ c.kind = 3 then decide (1 ≤ v) && decide (k = v) && decide (r = 0) && decide (l = 0)
  else if c.kind = 4 then decide (1 ≤ v) && decide (k = 0) && decide (r = 0) && decide (l = 0)
  else if c.kind = 5 then decide (v = 2) && decide (1 ≤ k) && decide (r = 0) && decide (l = 0)
  else if c.kind = 6 then (c.rows.all fun r => decide (r.length = v)) && decide (1 ≤ v) && decide (k = 0) && decide (l = 0)
  else if c.kind = 7 then decide (v = 3) && decide (k = 0) && decide (r = 0) && decide (l = 0)
  else if c.kind = 8 then decide (2 ≤ v) && decide (k = 0) && decide (r = 0) && decide (l = 0)
  else if c.kind = 9 then decide (v = 0) && decide (k = 0) && decide (r = 0)
  else decide (v = 1) && decide (k = 0) && decide (r = 0) && decide (l = 1)
def manyB (c : ConD) : Bool := decide (4 < c.vars.length) || decide (4 < c.lits.length) || decide (8 < c.consts.length) || decide (20 < c.rows.length)
def opE (l : LitD) : Int := if inR l.op 1 4 = false then 7 else if farB l.n = true then 3 else 0
/-- What is wrong with a constraint. -/
def conE (nv : Nat) (c : ConD) : Int :=
  if inR c.kind 1 10 = false then 7
  else if manyB c = true then 2
  else if formB c = false then 1
  else if (c.vars.any (noneB nv) || c.lits.any fun l => noneB nv l.var) = true then 5
  else if (c.consts.any farB || farB c.n || c.rows.any fun r => r.any farB) = true then 3
  else firstE (fun _ l => opE l) 0 c.lits
def goalE (m : MdlD) : Int :=
  if inR m.goal 0 2 = false then 7 else if m.goal = 0 ∧ m.var ≠ 0 then 1 else if m.goal ≠ 0 ∧ noneB m.vars.length m.var = true then 5 else 0
/-- What is wrong with a model. -/
def checkM (m : MdlD) : Int :=
  if m.vars.length = 0 then 1
  else if 6 < m.vars.length ∨ 8 < m.cons.length then 2
  else if varsE m.vars ≠ 0 then varsE m.vars
  else if firstE (fun _ c => conE m.vars.length c) 0 m.cons ≠ 0 then firstE (fun _ c => conE m.vars.length c) 0 m.cons
  else goalE m
end Go.Proofs.YtogdmcebojiojaaGreatDoor

/- What a scan gives, in plain Lean. -/
namespace Go.Proofs.YtogdmcebojiojaaGreatDoor
set_option linter.unusedVariables false

/-- Tokens that stand in a text L from 'lo' on, one behind the other. -/
def Chain (L : List UInt8) : Nat → List Tok → Prop
  | _, [] => True
  | lo, t :: ts => ∃ j n : Nat, lo ≤ j ∧ 1 ≤ n ∧ j + n ≤ L.length ∧ t.at_ = j ∧ t.text = bs ((L.drop j).take n) ∧ (∃ c r, L.drop j = c :: r ∧ tokenAt (c :: r) = (t.kind.toNat, n) ∧ 0 ≤ t.kind ∧ tokBad t.kind.toNat n c = 0) ∧ Chain L (j + n) ts

theorem Chain.mono {L : List UInt8} : ∀ {ts : List Tok} {lo lo' : Nat}, lo' ≤ lo → Chain L lo ts → Chain L lo' ts
  | [], _, _, _, _ => trivial
  | t :: ts, lo, lo', h, ⟨j, n, h1, h2⟩ => ⟨j, n, by omega, h2⟩

/-- What a scan that goes well adds. -/
theorem scanR_chain (L : List UInt8) : ∀ (l : List UInt8) (i : Nat) (note : Bool) (out : List Tok) (k : Nat), L.drop i = l → k ≤ l.length → (scanR l i note out k).2.2 = 0 →
    ∃ new, (scanR l i note out k).1 = out ++ new ∧ Chain L (i + k) new ∧ (scanR l i note out k).2.1 = 0
  | [], i, note, out, k, hL, hk, h => ⟨[], by simp [scanR], trivial, by simp [scanR]⟩
  | c :: r, i, note, out, k + 1, hL, hk, h => by
    have hr : L.drop (i + 1) = r := by rw [← List.drop_drop, hL]; rfl
    obtain ⟨new, h1, h2, h3⟩ := scanR_chain L r (i + 1) note out k hr (by simpa using hk) h
    exact ⟨new, h1, by rw [show i + (k + 1) = i + 1 + k from by omega]; exact h2, h3⟩
  | c :: r, i, note, out, 0, hL, hk, h => by
    have hr : L.drop (i + 1) = r := by rw [← List.drop_drop, hL]; rfl
    rw [scanR] at h ⊢
    by_cases h1 : (note || c == 37) = true
    · rw [if_pos h1] at h ⊢
      obtain ⟨new, a, b, d⟩ := scanR_chain L r (i + 1) _ out 0 hr (by omega) h
      exact ⟨new, a, b.mono (by omega), d⟩
    · rw [if_neg h1] at h ⊢
      by_cases h2 : blank c = true
      · rw [if_pos h2] at h ⊢
        obtain ⟨new, a, b, d⟩ := scanR_chain L r (i + 1) _ out 0 hr (by omega) h
        exact ⟨new, a, b.mono (by omega), d⟩
      · rw [if_neg h2] at h ⊢
        have hle := tokenAt_le (c :: r)
        have hpos := tokenAt_pos (c :: r)
        cases hta : tokenAt (c :: r) with
        | mk kd n =>
          rw [hta] at h hle hpos
          simp only at h hle hpos ⊢
          by_cases hb : tokBad kd n c = 0
          · rw [if_pos hb] at h ⊢
            have hn : 1 ≤ n := hpos (by rintro rfl; simp [tokBad] at hb)
            obtain ⟨new, a, b, d⟩ := scanR_chain L r (i + 1) _ _ (n - 1) hr (by simp at hle; omega) h
            have hll : L.length = i + (r.length + 1) := by
              have := congrArg List.length hL
              simp at this; omega
            refine ⟨⟨kd, i, bs ((c :: r).take n)⟩ :: new, by rw [a]; simp, ⟨i, n, by omega, hn, by simp at hle; omega, rfl, by rw [hL], ⟨c, r, hL, by simpa using hta, by simp, by simpa using hb⟩, ?_⟩, d⟩
            rw [show i + n = i + 1 + (n - 1) from by omega]; exact b
          · rw [if_neg hb] at h
            exact absurd h hb

theorem scanR_bad (L : List UInt8) : ∀ (l : List UInt8) (i : Nat) (note : Bool) (out : List Tok) (k : Nat), (scanR l i note out k).2.2 ≠ 0 → (scanR l i note out k).1 = []
  | [], i, note, out, k, h => by simp [scanR] at h
  | c :: r, i, note, out, k + 1, h => scanR_bad L r (i + 1) note out k h
  | c :: r, i, note, out, 0, h => by
    rw [scanR] at h ⊢
    by_cases h1 : (note || c == 37) = true
    · rw [if_pos h1] at h ⊢; exact scanR_bad L r _ _ _ _ h
    · rw [if_neg h1] at h ⊢
      by_cases h2 : blank c = true
      · rw [if_pos h2] at h ⊢; exact scanR_bad L r _ _ _ _ h
      · rw [if_neg h2] at h ⊢
        by_cases hb : tokBad (tokenAt (c :: r)).1 (tokenAt (c :: r)).2 c = 0
        · simp only [if_pos hb] at h ⊢; exact scanR_bad L r _ _ _ _ h
        · simp only [if_neg hb]

theorem scanS_bad {l : List UInt8} (h : (scanS l).2.2 ≠ 0) : (scanS l).1 = [] := by
  unfold scanS at h ⊢
  split
  · rfl
  · rename_i hh; rw [if_neg hh] at h; exact scanR_bad l _ _ _ _ _ h
theorem scanS_chain {l : List UInt8} (h : (scanS l).2.2 = 0) : Chain l 0 (scanS l).1 ∧ (scanS l).2.1 = 0 ∧ l.length ≤ 4000 := by
  unfold scanS at h ⊢
  split
  · rename_i hh; rw [if_pos hh] at h; simp at h
  · rename_i hh
    rw [if_neg hh] at h
    obtain ⟨new, a, b, d⟩ := scanR_chain l l 0 false [] 0 rfl (by omega) h
    rw [a]; exact ⟨b, d, by omega⟩

/-- A token's first byte is neither blank nor '%'. -/
theorem tokenAt_ne {c : UInt8} {r : List UInt8} (h : (tokenAt (c :: r)).1 ≠ 0) : c ≠ 37 ∧ blank c = false := by
  have key : ∀ d : UInt8, (d = 37 ∨ d = 32 ∨ d = 9 ∨ d = 10) → c = d → False := by
    intro d hd hc
    apply h
    subst hc
    have h1 : isL c = false := by rcases hd with rfl | rfl | rfl | rfl <;> decide
    have h2 : isD c = false := by rcases hd with rfl | rfl | rfl | rfl <;> decide
    have h3 : isSign c = false := by rcases hd with rfl | rfl | rfl | rfl <;> decide
    have h4 : isTwo (c :: r) = false := by
      cases r with
      | nil => rfl
      | cons a r => rcases hd with rfl | rfl | rfl | rfl <;> simp [isTwo]
    rw [tokenAt, if_neg (by simp [h1]), if_neg (by simp [h2]), if_neg (by simp [h4]), if_neg (by simp [h3])]
  refine ⟨fun e => key 37 (by simp) e, ?_⟩
  cases hb : blank c with
  | false => rfl
  | true =>
    simp only [blank, Bool.or_eq_true, beq_iff_eq] at hb
    rcases hb with (e | e) | e
    · exact (key 32 (by simp) e).elim
    · exact (key 9 (by simp) e).elim
    · exact (key 10 (by simp) e).elim

/-- What 'one' asks. -/
theorem one_iff (kind : Int) (s : ByteArray) : ((scanS s.data.toList).2.2 = 0 ∧ ∃ t, (scanS s.data.toList).1 = [t] ∧ t.kind = kind ∧ t.text = s) ↔ isTok kind s.data.toList = true := by
  constructor
  · rintro ⟨h, t, ht, hk, hx⟩
    obtain ⟨hc, _, hl⟩ := scanS_chain h
    rw [ht] at hc
    obtain ⟨j, n, h0, h1, h2, h3, h4, ⟨c, r, h5, h6, h7, h8⟩, _⟩ := hc
    have hsz : (bs ((s.data.toList.drop j).take n)).data.toList.length = n := by simp [bs]; simp at h2; omega
    rw [← h4, hx] at hsz
    have hj : j = 0 := by omega
    subst hj
    rw [List.drop_zero] at h5
    rw [h5] at h2 hl hsz ⊢
    simp only [isTok, h6]
    simp [h8, ← hk]
    simp at hl hsz
    refine ⟨⟨by omega, ?_⟩, by omega⟩
    omega
  · intro h
    cases hs : s.data.toList with
    | nil => rw [hs] at h; cases h
    | cons c r =>
      rw [hs] at h
      simp only [isTok, Bool.and_eq_true, decide_eq_true_eq] at h
      obtain ⟨⟨⟨h1, h2⟩, h3⟩, h4⟩ := h
      have hk0 : (tokenAt (c :: r)).1 ≠ 0 := by intro e; rw [e] at h4; simp [tokBad] at h4
      obtain ⟨n37, nbl⟩ := tokenAt_ne hk0
      have hsc : scanS (c :: r) = ([⟨kind, 0, s⟩], 0, 0) := by
        unfold scanS
        rw [if_neg (by omega), scanR, if_neg (by simpa using n37), if_neg (by simp [nbl])]
        have h4' : tokBad (tokenAt (c :: r)).1 (c :: r).length c = 0 := by rw [← h3]; exact h4
        simp only [h3, h2]
        rw [if_pos h4']
        rw [scanR_skip r _ _ _ _ (by simp), List.take_of_length_le (by simp), List.drop_of_length_le (by simp), scanR, ← hs]
        rfl
      rw [hsc]
      exact ⟨rfl, _, rfl, rfl, rfl⟩
end Go.Proofs.YtogdmcebojiojaaGreatDoor

/- The walks of the scanner's small functions, and of the document's. -/
namespace Go.Proofs.YtogdmcebojiojaaGreatDoor
open Go.RowKit
set_option linter.unusedVariables false

theorem letter_any (n : Nat) (hn : n < 256) (w : World) : Calls Tryz.prog 145 #[.int .u8 n] w fun e w' => e = .returned (.bool (isLN n)) ∧ w = w' := by
  go_enter Tryz.func145, Tryz.ntmps145
  go_wp2
  all_goals go_ret
  all_goals exact ⟨ret_bool (by rw [Bool.eq_iff_iff]; simp [isLN]; try omega), rfl⟩
theorem digit_any (n : Nat) (hn : n < 256) (w : World) : Calls Tryz.prog 148 #[.int .u8 n] w fun e w' => e = .returned (.bool (isDN n)) ∧ w = w' := by
  go_enter Tryz.func148, Tryz.ntmps148
  go_wp2
  all_goals go_ret
  all_goals exact ⟨ret_bool (by rw [Bool.eq_iff_iff]; simp [isDN]; try omega), rfl⟩
theorem word_any (n : Nat) (hn : n < 256) (w : World) : Calls Tryz.prog 147 #[.int .u8 n] w fun e w' => e = .returned (.bool (isLN n || isDN n)) ∧ w = w' := by
  cases hl : isLN n with
  | true =>
    go_enter Tryz.func147, Tryz.ntmps147
    go_wp2_with (go_at_call 145; refine (letter_any _ hn _).mono ?_; rintro e w' ⟨rfl, rfl⟩)
    go_ret
    exact ⟨by simp, rfl⟩
  | false =>
    go_enter Tryz.func147, Tryz.ntmps147
    go_wp2_with (first | (go_at_call 145; refine (letter_any _ hn _).mono ?_; rintro e w' ⟨rfl, rfl⟩) | (go_at_call 148; refine (digit_any _ hn _).mono ?_; rintro e w' ⟨rfl, rfl⟩))
    go_ret
    exact ⟨by simp, rfl⟩

theorem byte_eq {c : UInt8} {k : Nat} (hk : k < 256) (h : c = UInt8.ofNat k) : ((c.toNat : Int) == (k : Int)) = true := by
  subst h; simp; omega
theorem byte_ne {c : UInt8} {k : Nat} (hk : k < 256) (h : c ≠ UInt8.ofNat k) : ((c.toNat : Int) == (k : Int)) = false := by
  rw [beq_eq_false_iff_ne]
  intro e
  exact h (by rw [← UInt8.toNat_inj]; simp; omega)

theorem skipN_blank {c : UInt8} {r : List UInt8} {l : List UInt8} {i n : Nat} (hd : l.drop i = c :: l.drop (i + 1)) (h37 : c ≠ 37) (hb : blank c = true) (h : i + skipN (l.drop i) false = n) : i + 1 + skipN (l.drop (i + 1)) false = n := by
  rw [hd, skipN, if_neg (by simpa using h37), if_pos hb] at h; omega
theorem skipN_stop {c : UInt8} {l : List UInt8} {i n : Nat} (hd : l.drop i = c :: l.drop (i + 1)) (h37 : c ≠ 37) (hb : blank c = false) (h : i + skipN (l.drop i) false = n) : i = n := by
  rw [hd, skipN, if_neg (by simpa using h37), if_neg (by simp [hb])] at h; omega
theorem skipN_note {l : List UInt8} {i n : Nat} (hd : l.drop i = 37 :: l.drop (i + 1)) (h : i + skipN (l.drop i) false = n) : i + skipN (l.drop i) true = n := by
  rw [hd, skipN, if_pos (by simp)] at h
  rw [hd, skipN, if_neg (by decide)]; exact h
theorem skipN_in {c : UInt8} {l : List UInt8} {i n : Nat} (hd : l.drop i = c :: l.drop (i + 1)) (h10 : c ≠ 10) (h : i + skipN (l.drop i) true = n) : i + 1 + skipN (l.drop (i + 1)) true = n := by
  rw [hd, skipN, if_neg (by simpa using h10)] at h; omega
theorem skipN_out {l : List UInt8} {i n : Nat} (hd : l.drop i = 10 :: l.drop (i + 1)) (h : i + skipN (l.drop i) true = n) : i + skipN (l.drop i) false = n := by
  rw [hd, skipN, if_pos (by simp)] at h
  rw [hd, skipN, if_neg (by decide), if_pos (by decide)]; exact h
theorem skipN_end {l : List UInt8} {i n : Nat} (hl : l.length ≤ i) (note : Bool) (h : i + skipN (l.drop i) note = n) : i = n ∧ i + skipN (l.drop i) false = n := by
  rw [List.drop_of_length_le hl] at h ⊢
  simp [skipN] at h ⊢; exact h

set_option maxHeartbeats 1000000 in
/-- Skip: past blanks and remarks. -/
theorem skip_any (g : Nat) (s : ByteArray) (i0 : Nat) (w : World) (hs : s.size ≤ 4000) (h0 : i0 ≤ s.size) (hb : Blk w g 152 #[.string s, .int .i64 i0]) :
    Calls Tryz.prog 91 #[.pointer (some ⟨g, 0, none⟩)] w fun e w' => e = .returned (.tuple #[]) ∧
      Blk w' g 152 #[.string s, .int .i64 ↑(i0 + skipN (s.data.toList.drop i0) false)] ∧ w.grownBy w' (some g) := by
  go_enter Tryz.func91, Tryz.ntmps91
  go_wp2
  go_loopg [] (s.size) (fun k wr => ∃ i : Nat, i ≤ s.size ∧ s.size - i ≤ k ∧ Hid (Blk wr g 152 #[.string s, .int .i64 i]) ∧ Hid (i + skipN (s.data.toList.drop i) false = i0 + skipN (s.data.toList.drop i0) false) ∧ w.grownBy wr (some g))
  case atStart => exact ⟨i0, h0, by omega, hb, rfl, World.grownBy.refl _ _⟩
  case round =>
    obtain ⟨i, hi, hk, hB, hE, hG⟩ := hrel
    obtain ⟨wo, rfl⟩ : ∃ wo : World, wo = wr := ⟨_, rfl⟩
    have c0 : wo.cell? ⟨g, 0, none⟩ = some (.string s) := hB.out.cell 0
    have c1 : wo.cell? ⟨g, 1, none⟩ = some (.int .i64 i) := hB.out.cell 1
    have f1 : wo.frozen? ⟨g, 1, none⟩ = false := hB.out.frozen 1
    clear h0 hb
    by_cases hlt : i < s.size
    · have hlt' : (i : Int) < (s.size : Int) := by omega
      have hd := Lib.hid (data_drop s i hlt)
      by_cases e37 : s[i] = 37
      · have y37 := byte_eq (k := 37) (by omega) e37
        have n32 := byte_ne (c := s[i]) (k := 32) (by omega) (by rw [e37]; decide)
        have n9 := byte_ne (c := s[i]) (k := 9) (by omega) (by rw [e37]; decide)
        have n10 := byte_ne (c := s[i]) (k := 10) (by omega) (by rw [e37]; decide)
        have E37 := Lib.hid e37
        clear e37
        go_wp2
        go_quiet (fail)
        go_wp2
        go_quiet (fail)
        go_wp2
        go_loopg [] (s.size) (fun k wq => ∃ j : Nat, i ≤ j ∧ j ≤ s.size ∧ s.size - j ≤ k ∧ Hid (Blk wq g 152 #[.string s, .int .i64 j]) ∧ Hid (j + skipN (s.data.toList.drop j) true = i0 + skipN (s.data.toList.drop i0) false) ∧ w.grownBy wq (some g))
        case atStart => exact ⟨i, by omega, hi, by omega, hB.out.drewN _, skipN_note (by rw [hd.out, E37.out]) hE.out, only_drewN hG _⟩
        case round =>
          obtain ⟨j, hij, hj, hk2, hB2, hE2, hG2⟩ := hrel
          have d0 : wr.cell? ⟨g, 0, none⟩ = some (.string s) := hB2.out.cell 0
          have d1 : wr.cell? ⟨g, 1, none⟩ = some (.int .i64 j) := hB2.out.cell 1
          have d2 : wr.frozen? ⟨g, 1, none⟩ = false := hB2.out.frozen 1
          clear hB hE hG c0 c1 f1
          by_cases hjl : j < s.size
          · have hjl' : (j : Int) < (s.size : Int) := by omega
            have hd2 := Lib.hid (data_drop s j hjl)
            by_cases e10 : s[j] = 10
            · have y10' : ((s[j].toNat : Int) != 10) = false := by rw [e10]; decide
              have hne : i ≠ j := by
                rintro rfl
                have := E37.out
                rw [e10] at this
                exact absurd this (by decide)
              have E10 := Lib.hid e10
              clear e10 y37 n32 n9 n10
              go_wp2
              go_quiet (fail)
              go_wp2
              go_roundg (s.size - j)
              case measure => omega
              case rel => exact ⟨j, by omega, by omega, hB2.out.drewN _, skipN_out (by rw [hd2.out, E10.out]) hE2.out, only_drewN hG2 _⟩
            · have y10' : ((s[j].toNat : Int) != 10) = true := by
                rw [bne_iff_ne]; intro e; exact e10 (by rw [← UInt8.toNat_inj]; simp; omega)
              have E10 := Lib.hid e10
              clear e10 y37 n32 n9 n10
              go_wp2
              go_quiet (fail)
              go_wp2
              go_roundg (s.size - (j + 1))
              case measure => omega
              case rel => exact ⟨j + 1, by omega, by omega, by omega, (hB2.out.drewN _).set_ 1 _, skipN_in hd2.out E10.out hE2.out, only_setCell (only_drewN hG2 _) (.inl rfl) _⟩
          · have hjl' : decide ((j : Int) < (s.size : Int)) = false := by simp; omega
            clear y37 n32 n9 n10
            go_wp2
            go_quiet (fail)
            go_wp2
            go_roundg (s.size - j)
            case measure => omega
            case rel => exact ⟨j, by omega, by omega, hB2.out.drewN _, (skipN_end (by simpa using hjl) true hE2.out).2, only_drewN hG2 _⟩
      · have n37 := byte_ne (k := 37) (by omega) e37
        have N37 := Lib.hid e37
        clear e37
        by_cases e32 : s[i] = 32
        · have y32 := byte_eq (k := 32) (by omega) e32
          have hbl : blank s[i] = true := by simp [blank, e32]
          have BL := Lib.hid hbl
          clear e32 n37 hbl
          go_wp2
          go_quiet (fail)
          go_wp2
          go_quiet (fail)
          go_wp2
          go_roundg (s.size - (i + 1))
          case measure => omega
          case rel => exact ⟨i + 1, by omega, by omega, (hB.out.drewN _).set_ 1 _, skipN_blank (r := []) hd.out N37.out BL.out hE.out, only_setCell (only_drewN hG _) (.inl rfl) _⟩
        · have n32 := byte_ne (k := 32) (by omega) e32
          by_cases e9 : s[i] = 9
          · have y9 := byte_eq (k := 9) (by omega) e9
            have hbl : blank s[i] = true := by simp [blank, e9]
            have BL := Lib.hid hbl
            clear e9 e32 n37 hbl
            go_wp2
            go_quiet (fail)
            go_wp2
            go_quiet (fail)
            go_wp2
            go_roundg (s.size - (i + 1))
            case measure => omega
            case rel => exact ⟨i + 1, by omega, by omega, (hB.out.drewN _).set_ 1 _, skipN_blank (r := []) hd.out N37.out BL.out hE.out, only_setCell (only_drewN hG _) (.inl rfl) _⟩
          · have n9 := byte_ne (k := 9) (by omega) e9
            by_cases e10 : s[i] = 10
            · have y10 := byte_eq (k := 10) (by omega) e10
              have hbl : blank s[i] = true := by simp [blank, e10]
              have BL := Lib.hid hbl
              clear e10 e9 e32 n37 hbl
              go_wp2
              go_quiet (fail)
              go_wp2
              go_quiet (fail)
              go_wp2
              go_roundg (s.size - (i + 1))
              case measure => omega
              case rel => exact ⟨i + 1, by omega, by omega, (hB.out.drewN _).set_ 1 _, skipN_blank (r := []) hd.out N37.out BL.out hE.out, only_setCell (only_drewN hG _) (.inl rfl) _⟩
            · have n10 := byte_ne (k := 10) (by omega) e10
              have hbl : blank s[i] = false := by simp [blank, e10, e9, e32]
              have BL := Lib.hid hbl
              clear e10 e9 e32 hbl
              go_wp2
              go_quiet (fail)
              go_wp2
              go_quiet (fail)
              go_wp2
              have hfin := skipN_stop hd.out N37.out BL.out hE.out
              rw [← hfin]
              refine bodyPost_ret (results_none rfl _ _ _) rfl ?_
              exact ⟨rfl, hB.out.drewN _, only_drewN hG _⟩
    · have hlt' : ¬ (i : Int) < (s.size : Int) := by omega
      go_wp2
      go_quiet (fail)
      go_wp2
      have hfin := (skipN_end (by simpa using hlt) false hE.out).1
      rw [← hfin]
      go_end0
      exact ⟨rfl, hB.out.drewN _, only_drewN hG _⟩
end Go.Proofs.YtogdmcebojiojaaGreatDoor

/- slices.IndexFunc and slices.ContainsFunc at the program's instances: the first place at which a predicate holds, whatever function tells it. Printed by gen_idx.py. -/
namespace Go.Proofs.YtogdmcebojiojaaGreatDoor
open Go.RowKit
set_option linter.unusedVariables false

/-- The first place at which p holds, or -1. -/
def idxI {α : Type} (p : α → Bool) (xs : List α) : Int := match xs.findIdx? p with | some i => i | none => -1
theorem idxI_hit {α : Type} {p : α → Bool} {xs : List α} {k : Nat} (hk : k < xs.length) (h : ∀ j (hj : j < k), p (xs[j]'(by omega)) = false) (hp : p xs[k] = true) : idxI p xs = k := by
  unfold idxI
  have : xs.findIdx? p = some k := by
    rw [List.findIdx?_eq_some_iff_getElem]
    exact ⟨hk, hp, fun j hj => by simp [h j hj]⟩
  rw [this]
theorem idxI_miss {α : Type} {p : α → Bool} {xs : List α} (h : ∀ j (hj : j < xs.length), p xs[j] = false) : idxI p xs = -1 := by
  unfold idxI
  have : xs.findIdx? p = none := by
    rw [List.findIdx?_eq_none_iff]
    intro x hx
    obtain ⟨j, hj, rfl⟩ := List.getElem_of_mem hx
    exact h j hj
  rw [this]
theorem idxI_any {α : Type} (p : α → Bool) (xs : List α) : decide (0 ≤ idxI p xs) = xs.any p := by
  unfold idxI
  rw [Bool.eq_iff_iff]
  cases h : xs.findIdx? p with
  | none =>
    rw [List.findIdx?_eq_none_iff] at h
    simp only [decide_eq_true_eq, List.any_eq_true]
    constructor
    · intro h'; omega
    · rintro ⟨x, hx, hp⟩; simp [h x hx] at hp
  | some i =>
    rw [List.findIdx?_eq_some_iff_getElem] at h
    obtain ⟨hi, hp, _⟩ := h
    simp only [decide_eq_true_eq, List.any_eq_true]
    exact ⟨fun _ => ⟨_, List.getElem_mem hi, hp⟩, fun _ => by omega⟩

/-- What is asked of a function value: at each x of xs, in every world in which what lay in w lies, it answers p x, and turns nothing that lies. -/
def FnOk {α : Type} [Rep α] (P : Program) (F : FuncId) (lb : Array Value) (w : World) (xs : List α) (p : α → Bool) : Prop :=
  ∀ (W : World) (v : Value) (x : α), x ∈ xs → Below w.heap.size w W → Rds W v x → Calls P F (#[v] ++ lb) W fun e W' => e = .returned (.bool (p x)) ∧ Below W.heap.size W W'

section
variable {w : World} {S : Nat → Prop}
end


theorem indexFunc_str (F : FuncId) (lb : Array Value) (eg : ∀ args w, (callFunc F args).run Tryz.prog w = .ok (.enter F args) w) (v : Value) (xs : List (ByteArray)) (p : ByteArray → Bool) (w : World) (hr : Rds w v xs) (hf : FnOk Tryz.prog F lb w xs p) :
    Calls Tryz.prog 207 #[v, .func (.func F) #[] lb] w fun e w' => e = .returned (.int .i64 (idxI p xs)) ∧ Below w.heap.size w w' := by
  obtain ⟨A, c, rfl, hsl⟩ := rdV_list hr
  have hlen : xs.length ≤ 9223372036854775807 := Nat.le_trans hsl.cap hsl.max
  clear hsl
  go_enter Tryz.func207, Tryz.ntmps207
  go_wp2_with fail
  go_loopg [5, 8] xs.length (fun gg s5 s8 wr => ∃ k : Nat, k ≤ xs.length ∧ xs.length - k ≤ gg ∧ s8 = .int .i64 k ∧ Below w.heap.size w wr ∧ Aside (∀ j (hj : j < k) (hl : j < xs.length), p xs[j] = false))
  case atStart => exact ⟨0, Nat.zero_le _, by omega, rfl, Below.refl _ _, fun j hj => absurd hj (Nat.not_lt_zero _)⟩
  case round =>
    obtain ⟨k, hk, hg, rfl, hB, hN⟩ := hrel
    by_cases hlt : k < xs.length
    · have hlt' : (k : Int) < (xs.length : Int) := by omega
      obtain ⟨b, o, rfl, hb, c0, q0⟩ := rdV_at_str (hr.below hB) hlt
      have hcall := hf wr (.string xs[k]) xs[k] (List.getElem_mem hlt) hB (rdV_str_mk q0)
      cases hq : p xs[k] with
      | true =>
        rw [hq] at hcall
        have HC := Lib.hid hcall
        have HQ := Lib.hid hq
        have HF := Lib.hid hf
        clear hcall hq hf
        go_wp2_with (go_at_fn F; refine HC.out.mono ?_; rintro e w1 ⟨rfl, hb1⟩)
        go_ret
        exact ⟨by rw [idxI_hit hlt (fun j hj => hN.out j hj (by omega)) HQ.out]; rfl, bstep hB hb1⟩
      | false =>
        rw [hq] at hcall
        have HC := Lib.hid hcall
        have HQ := Lib.hid hq
        have HF := Lib.hid hf
        clear hcall hq hf
        go_wp2_with (go_at_fn F; refine HC.out.mono ?_; rintro e w1 ⟨rfl, hb1⟩)
        go_roundg (xs.length - (k + 1))
        case measure => omega
        case rel =>
          refine ⟨k + 1, by omega, by omega, by go_num, bstep hB hb1, (show Aside _ from fun j hj hl => ?_)⟩
          by_cases e : j = k
          · subst e; exact HQ.out
          · exact hN.out j (by omega) hl
    · have hlt' : ¬ (k : Int) < (xs.length : Int) := by omega
      obtain rfl : k = xs.length := by omega
      have HF := Lib.hid hf
      clear hf
      go_wp2_with fail
      go_ret
      exact ⟨by rw [idxI_miss (fun j hj => hN.out j hj hj)]; rfl, hB⟩
theorem containsFunc_str (F : FuncId) (lb : Array Value) (eg : ∀ args w, (callFunc F args).run Tryz.prog w = .ok (.enter F args) w) (v : Value) (xs : List (ByteArray)) (p : ByteArray → Bool) (w : World) (hr : Rds w v xs) (hf : FnOk Tryz.prog F lb w xs p) :
    Calls Tryz.prog 149 #[v, .func (.func F) #[] lb] w fun e w' => e = .returned (.bool (xs.any p)) ∧ Below w.heap.size w w' := by
  rw [← idxI_any]
  have HC := Lib.hid (indexFunc_str F lb eg v xs p w hr hf)
  clear hf hr
  go_enter Tryz.func149, Tryz.ntmps149
  go_wp2_with (go_at_call 207; refine HC.out.mono ?_; rintro e w1 ⟨rfl, hb1⟩)
  go_ret
  exact ⟨rfl, hb1⟩

end Go.Proofs.YtogdmcebojiojaaGreatDoor

/-
  DERIVED: THE SHELF's CONTRACTS AT THIS DUMP, IN PLAIN WORDS (tools/lay-plain.mjs out of 'TryzShelf.lean', which tools/lay-shelf.mjs wrote): THE SAME DECLARATIONS UNDER THE SAME NAMES: 'import', 'namespace', 'open', 'def', 'theorem' AND NOTHING ELSE: no command of the shelf's: FOR A HAND-IN. Each laying: the table of numbers ('.._ren') and one theorem, a field a fact of the dump's own or the kernel's comparison; each contract: ONE APPLICATION.
-/
namespace Go.Proofs
open Go.Shelf
def Tryz.lays156_ren : Go.Shelf.Ren := ⟨fun | 156 => 174 | 165 => 231 | 166 => 56 | 169 => 60 | 240 => 106 | 241 => 278 | 276 => 172 | 277 => 309 | n => n, fun | 31 => 92 | 9 => 9 | 3 => 3 | 4 => 4 | 0 => 0 | 20 => 20 | 72 => 99 | 76 => 104 | 70 => 96 | 37 => 97 | 75 => 103 | 127 => 174 | 164 => 210 | 5 => 5 | 80 => 86 | n => n, fun | n => n⟩
theorem Tryz.lays156 : Go.Proofs.Lays.n156 Tryz.prog Tryz.lays156_ren := {
  mixed := by kernel_rfl
  f156 := Tryz.func174.trans (congrArg some (by kernel_rfl))
  f165 := Tryz.func231.trans (congrArg some (by kernel_rfl))
  f166 := Tryz.func56.trans (congrArg some (by kernel_rfl))
  f169 := Tryz.func60.trans (congrArg some (by kernel_rfl))
  f240 := Tryz.func106.trans (congrArg some (by kernel_rfl))
  f241 := Tryz.func278.trans (congrArg some (by kernel_rfl))
  f276 := Tryz.func172.trans (congrArg some (by kernel_rfl))
  f277 := Tryz.func309.trans (congrArg some (by kernel_rfl))
  t0 := Tryz.underlying0
  a0 := Tryz.isAgg0
  z0 := Tryz.sizeOf0
  v0 := Tryz.zeroValue0
  t3 := Tryz.underlying3
  a3 := Tryz.isAgg3
  z3 := Tryz.sizeOf3
  v3 := Tryz.zeroValue3
  t4 := Tryz.underlying4
  a4 := Tryz.isAgg4
  z4 := Tryz.sizeOf4
  v4 := Tryz.zeroValue4
  t9 := Tryz.underlying9
  a9 := Tryz.isAgg9
  z9 := Tryz.sizeOf9
  v9 := Tryz.zeroValue9
  t20 := Tryz.underlying20
  a20 := Tryz.isAgg20
  z20 := Tryz.sizeOf20
  v20 := Tryz.zeroValue20
  t31 := Tryz.underlying92
  a31 := Tryz.isAgg92
  z31 := Tryz.sizeOf92
  v31 := Tryz.zeroValue92
  t37 := Tryz.underlying97
  a37 := Tryz.isAgg97
  z37 := Tryz.sizeOf97
  v37 := Tryz.zeroValue97
  t70 := Tryz.underlying96
  a70 := Tryz.isAgg96
  z70 := Tryz.sizeOf96
  v70 := Tryz.zeroValue96
  t72 := Tryz.underlying99
  a72 := Tryz.isAgg99
  z72 := Tryz.sizeOf99
  v72 := Tryz.zeroValue99
  t75 := Tryz.underlying103
  a75 := Tryz.isAgg103
  z75 := Tryz.sizeOf103
  v75 := Tryz.zeroValue103
  t76 := Tryz.underlying104
  a76 := Tryz.isAgg104
  z76 := Tryz.sizeOf104
  v76 := Tryz.zeroValue104
  t127 := Tryz.underlying174
  a127 := Tryz.isAgg174
  z127 := Tryz.sizeOf174
  v127 := Tryz.zeroValue174
  t164 := Tryz.underlying210
  a164 := Tryz.isAgg210
  z164 := Tryz.sizeOf210
  v164 := Tryz.zeroValue210 }
theorem Tryz.Builder_Extra_156 : Builder.Extra Tryz.prog Tryz.lays156_ren := {
  sizeBuilder := by kernel_rfl
  liesBuilder := by kernel_rfl
  t5 := Tryz.underlying5
  a5 := Tryz.isAgg5
  z5 := Tryz.sizeOf5
  v5 := Tryz.zeroValue5
  infoByte := by kernel_rfl
  cellsByte := by kernel_rfl
  sizeByte := by kernel_rfl
  neB5 := by decide }
open Go.RowKit in
/-- No element: the empty string; the world is as it was. (Whatever the slice's address and capacity: a nil slice too.) (LAID: no walk: one application.) -/
theorem Tryz.strings_Join_none (a : Option Addr) (c : Nat) (sep : ByteArray) (w : World) :
    Calls Tryz.prog 174 #[.slice a 0 c, .string sep] w fun e w' => e = .returned (.string ⟨#[]⟩) ∧ w' = w := Any.strings_Join_none Tryz.lays156 Tryz.Builder_Extra_156 a c sep w
open Go.RowKit in
/-- strings.Join: "Join concatenates the elements of its first argument to create a single string. The separator string sep is placed between elements in the resulting string.": HOWEVER MANY ELEMENTS. Below the heap's end the world is as it was. (LAID: no walk: one application.) -/
theorem Tryz.strings_Join (bk o c : Nat) (xs : List ByteArray) (sep : ByteArray) (w : World) (hcells : ∀ (j : Nat) x, xs[j]? = some x → w.cell? ⟨bk, o + j, none⟩ = some (.string x)) (hbk : bk < w.heap.size) (hN : xs.length ≤ 140737488355328) (hcap : xs.length ≤ c) (hlen : (Lib.join (xs.map (·.data.toList)) sep.data.toList).length ≤ 140737488355328) :
    Calls Tryz.prog 174 #[.slice (some ⟨bk, o, none⟩) xs.length c, .string sep] w fun e w' => e = .returned (.string ⟨(Lib.join (xs.map (·.data.toList)) sep.data.toList).toArray⟩) ∧ Below w.heap.size w w' := Any.strings_Join Tryz.lays156 Tryz.Builder_Extra_156 bk o c xs sep w hcells hbk hN hcap hlen
def Tryz.lays137_ren : Go.Shelf.Ren := ⟨fun | 137 => 153 | 217 => 209 | 266 => 269 | n => n, fun | 9 => 9 | 5 => 5 | 3 => 3 | n => n, fun | n => n⟩
theorem Tryz.lays137 : Go.Proofs.Lays.n137 Tryz.prog Tryz.lays137_ren := {
  mixed := by kernel_rfl
  f137 := Tryz.func153.trans (congrArg some (by kernel_rfl))
  f217 := Tryz.func209.trans (congrArg some (by kernel_rfl))
  f266 := Tryz.func269.trans (congrArg some (by kernel_rfl))
  t3 := Tryz.underlying3
  a3 := Tryz.isAgg3
  z3 := Tryz.sizeOf3
  v3 := Tryz.zeroValue3
  t5 := Tryz.underlying5
  a5 := Tryz.isAgg5
  z5 := Tryz.sizeOf5
  v5 := Tryz.zeroValue5
  t9 := Tryz.underlying9
  a9 := Tryz.isAgg9
  z9 := Tryz.sizeOf9
  v9 := Tryz.zeroValue9 }
open Go.RowKit in
/-- strings.IndexByte: "IndexByte returns the index of the first instance of c in s, or -1 if c is not present in s.": IT RETURNS 'Lib.indexByte s c'; the world is as it was. (LAID: no walk: one application.) -/
theorem Tryz.strings_IndexByte (s : ByteArray) (c : Int) (w : World) :
    Calls Tryz.prog 153 #[.string s, .int .u8 c] w fun e w' => e = .returned (.int .i64 (Lib.indexByte s.data.toList c.toNat.toUInt8)) ∧ w' = w := Any.strings_IndexByte Tryz.lays137 s c w
def Tryz.lays172_ren : Go.Shelf.Ren := ⟨fun | 172 => 210 | 244 => 270 | 245 => 271 | 247 => 302 | 279 => 303 | 280 => 304 | 281 => 305 | 282 => 306 | 287 => 314 | 316 => 315 | 171 => 57 | 205 => 316 | 321 => 318 | 322 => 319 | 243 => 107 | 246 => 173 | 283 => 227 | 284 => 228 | 285 => 229 | 286 => 230 | 129 => 268 | 317 => 274 | 318 => 275 | 319 => 276 | 320 => 277 | 337 => 307 | 338 => 308 | n => n, fun | 9 => 9 | 3 => 3 | 75 => 103 | 76 => 104 | 4 => 4 | 5 => 5 | 167 => 310 | 37 => 97 | 0 => 0 | 85 => 311 | 2 => 2 | 168 => 313 | 53 => 250 | 175 => 321 | 46 => 236 | 210 => 325 | 127 => 174 | 145 => 333 | 143 => 331 | 21 => 21 | 171 => 249 | 173 => 253 | 212 => 281 | 51 => 277 | 20 => 20 | 213 => 282 | 232 => 327 | 233 => 328 | 80 => 86 | n => n, fun | 15 => 2 | 16 => 3 | 17 => 0 | 18 => 4 | 19 => 5 | n => n⟩
theorem Tryz.lays172 : Go.Proofs.Lays.n172 Tryz.prog Tryz.lays172_ren := {
  mixed := by kernel_rfl
  f129 := Tryz.func268.trans (congrArg some (by kernel_rfl))
  f171 := Tryz.func57.trans (congrArg some (by kernel_rfl))
  f172 := Tryz.func210.trans (congrArg some (by kernel_rfl))
  f205 := Tryz.func316.trans (congrArg some (by kernel_rfl))
  f243 := Tryz.func107.trans (congrArg some (by kernel_rfl))
  f244 := Tryz.func270.trans (congrArg some (by kernel_rfl))
  f245 := Tryz.func271.trans (congrArg some (by kernel_rfl))
  f246 := Tryz.func173.trans (congrArg some (by kernel_rfl))
  f247 := Tryz.func302.trans (congrArg some (by kernel_rfl))
  f279 := Tryz.func303.trans (congrArg some (by kernel_rfl))
  f280 := Tryz.func304.trans (congrArg some (by kernel_rfl))
  f281 := Tryz.func305.trans (congrArg some (by kernel_rfl))
  f282 := Tryz.func306.trans (congrArg some (by kernel_rfl))
  f283 := Tryz.func227.trans (congrArg some (by kernel_rfl))
  f284 := Tryz.func228.trans (congrArg some (by kernel_rfl))
  f285 := Tryz.func229.trans (congrArg some (by kernel_rfl))
  f286 := Tryz.func230.trans (congrArg some (by kernel_rfl))
  f287 := Tryz.func314.trans (congrArg some (by kernel_rfl))
  f316 := Tryz.func315.trans (congrArg some (by kernel_rfl))
  f317 := Tryz.func274.trans (congrArg some (by kernel_rfl))
  f318 := Tryz.func275.trans (congrArg some (by kernel_rfl))
  f319 := Tryz.func276.trans (congrArg some (by kernel_rfl))
  f320 := Tryz.func277.trans (congrArg some (by kernel_rfl))
  f321 := Tryz.func318.trans (congrArg some (by kernel_rfl))
  f322 := Tryz.func319.trans (congrArg some (by kernel_rfl))
  f337 := Tryz.func307.trans (congrArg some (by kernel_rfl))
  f338 := Tryz.func308.trans (congrArg some (by kernel_rfl))
  t0 := Tryz.underlying0
  a0 := Tryz.isAgg0
  z0 := Tryz.sizeOf0
  v0 := Tryz.zeroValue0
  t2 := Tryz.underlying2
  a2 := Tryz.isAgg2
  z2 := Tryz.sizeOf2
  v2 := Tryz.zeroValue2
  t3 := Tryz.underlying3
  a3 := Tryz.isAgg3
  z3 := Tryz.sizeOf3
  v3 := Tryz.zeroValue3
  t4 := Tryz.underlying4
  a4 := Tryz.isAgg4
  z4 := Tryz.sizeOf4
  v4 := Tryz.zeroValue4
  t5 := Tryz.underlying5
  a5 := Tryz.isAgg5
  z5 := Tryz.sizeOf5
  v5 := Tryz.zeroValue5
  t9 := Tryz.underlying9
  a9 := Tryz.isAgg9
  z9 := Tryz.sizeOf9
  v9 := Tryz.zeroValue9
  t20 := Tryz.underlying20
  a20 := Tryz.isAgg20
  z20 := Tryz.sizeOf20
  v20 := Tryz.zeroValue20
  t21 := Tryz.underlying21
  a21 := Tryz.isAgg21
  z21 := Tryz.sizeOf21
  v21 := Tryz.zeroValue21
  t37 := Tryz.underlying97
  a37 := Tryz.isAgg97
  z37 := Tryz.sizeOf97
  v37 := Tryz.zeroValue97
  t46 := Tryz.underlying236
  a46 := Tryz.isAgg236
  z46 := Tryz.sizeOf236
  v46 := Tryz.zeroValue236
  t51 := Tryz.underlying277
  a51 := Tryz.isAgg277
  z51 := Tryz.sizeOf277
  v51 := Tryz.zeroValue277
  t53 := Tryz.underlying250
  a53 := Tryz.isAgg250
  z53 := Tryz.sizeOf250
  v53 := Tryz.zeroValue250
  t75 := Tryz.underlying103
  a75 := Tryz.isAgg103
  z75 := Tryz.sizeOf103
  v75 := Tryz.zeroValue103
  t76 := Tryz.underlying104
  a76 := Tryz.isAgg104
  z76 := Tryz.sizeOf104
  v76 := Tryz.zeroValue104
  t85 := Tryz.underlying311
  a85 := Tryz.isAgg311
  z85 := Tryz.sizeOf311
  v85 := Tryz.zeroValue311
  t127 := Tryz.underlying174
  a127 := Tryz.isAgg174
  z127 := Tryz.sizeOf174
  v127 := Tryz.zeroValue174
  t143 := Tryz.underlying331
  a143 := Tryz.isAgg331
  z143 := Tryz.sizeOf331
  v143 := Tryz.zeroValue331
  t145 := Tryz.underlying333
  a145 := Tryz.isAgg333
  z145 := Tryz.sizeOf333
  v145 := Tryz.zeroValue333
  t167 := Tryz.underlying310
  a167 := Tryz.isAgg310
  z167 := Tryz.sizeOf310
  v167 := Tryz.zeroValue310
  t168 := Tryz.underlying313
  a168 := Tryz.isAgg313
  z168 := Tryz.sizeOf313
  v168 := Tryz.zeroValue313
  t171 := Tryz.underlying249
  a171 := Tryz.isAgg249
  z171 := Tryz.sizeOf249
  v171 := Tryz.zeroValue249
  t173 := Tryz.underlying253
  a173 := Tryz.isAgg253
  z173 := Tryz.sizeOf253
  v173 := Tryz.zeroValue253
  t175 := Tryz.underlying321
  a175 := Tryz.isAgg321
  z175 := Tryz.sizeOf321
  v175 := Tryz.zeroValue321
  t210 := Tryz.underlying325
  a210 := Tryz.isAgg325
  z210 := Tryz.sizeOf325
  v210 := Tryz.zeroValue325
  t212 := Tryz.underlying281
  a212 := Tryz.isAgg281
  z212 := Tryz.sizeOf281
  v212 := Tryz.zeroValue281
  t213 := Tryz.underlying282
  a213 := Tryz.isAgg282
  z213 := Tryz.sizeOf282
  t232 := Tryz.underlying327
  a232 := Tryz.isAgg327
  z232 := Tryz.sizeOf327
  v232 := Tryz.zeroValue327
  t233 := Tryz.underlying328
  a233 := Tryz.isAgg328
  z233 := Tryz.sizeOf328
  v233 := Tryz.zeroValue328
  g15 := by kernel_rfl
  g16 := by kernel_rfl
  g17 := by kernel_rfl
  g18 := by kernel_rfl
  g19 := by kernel_rfl }
open Go.RowKit in
/-- strconv.Atoi: "Atoi is equivalent to ParseInt(s, 10, 0), converted to type int.": AT A DECIMAL NUMERAL OF AT MOST 18 BYTES: its value, and a nil error. The world behind the call: the one new row that the library's '[]byte(s)' lays. (LAID: no walk: one application.) -/
theorem Tryz.strconv_Atoi (s : ByteArray) (n : Int) (hl : s.size ≤ 18) (h : Lib.atoi s.data.toList = some n) (w : World) :
    Calls Tryz.prog 210 #[.string s] w fun e w' => e = .returned (.tuple #[.int .i64 n, .nilIface]) ∧ ∃ t, w' = Lib.bytesWorld w 5 t := Any.strconv_Atoi Tryz.lays172 s n hl h w
def Tryz.laysM171_ren : Go.Shelf.Ren := ⟨fun | 171 => 57 | 243 => 107 | 246 => 173 | 283 => 227 | 284 => 228 | 285 => 229 | 286 => 230 | 129 => 268 | 317 => 274 | 318 => 275 | 319 => 276 | 320 => 277 | 337 => 307 | 338 => 308 | n => n, fun | 3 => 3 | 9 => 9 | 2 => 2 | 4 => 4 | 171 => 249 | 0 => 0 | 53 => 250 | 37 => 97 | 5 => 5 | 173 => 253 | 212 => 281 | 51 => 277 | 20 => 20 | 213 => 282 | 46 => 236 | 232 => 327 | 233 => 328 | n => n, fun | 17 => 0 | 18 => 4 | 19 => 5 | n => n⟩
theorem Tryz.laysM171 : Go.Proofs.LaysM.n171 Tryz.prog Tryz.laysM171_ren := {
  mixed := by kernel_rfl
  f129 := Tryz.func268.trans (congrArg some (by kernel_rfl))
  f171 := Tryz.func57.trans (congrArg some (by kernel_rfl))
  f243 := Tryz.func107.trans (congrArg some (by kernel_rfl))
  f246 := Tryz.func173.trans (congrArg some (by kernel_rfl))
  f283 := Tryz.func227.trans (congrArg some (by kernel_rfl))
  f284 := Tryz.func228.trans (congrArg some (by kernel_rfl))
  f285 := Tryz.func229.trans (congrArg some (by kernel_rfl))
  f286 := Tryz.func230.trans (congrArg some (by kernel_rfl))
  f317 := Tryz.func274.trans (congrArg some (by kernel_rfl))
  f318 := Tryz.func275.trans (congrArg some (by kernel_rfl))
  f319 := Tryz.func276.trans (congrArg some (by kernel_rfl))
  f320 := Tryz.func277.trans (congrArg some (by kernel_rfl))
  f337 := Tryz.func307.trans (congrArg some (by kernel_rfl))
  f338 := Tryz.func308.trans (congrArg some (by kernel_rfl))
  t0 := Tryz.underlying0
  a0 := Tryz.isAgg0
  z0 := Tryz.sizeOf0
  v0 := Tryz.zeroValue0
  t2 := Tryz.underlying2
  a2 := Tryz.isAgg2
  z2 := Tryz.sizeOf2
  v2 := Tryz.zeroValue2
  t3 := Tryz.underlying3
  a3 := Tryz.isAgg3
  z3 := Tryz.sizeOf3
  v3 := Tryz.zeroValue3
  t4 := Tryz.underlying4
  a4 := Tryz.isAgg4
  z4 := Tryz.sizeOf4
  v4 := Tryz.zeroValue4
  t5 := Tryz.underlying5
  a5 := Tryz.isAgg5
  z5 := Tryz.sizeOf5
  v5 := Tryz.zeroValue5
  t9 := Tryz.underlying9
  a9 := Tryz.isAgg9
  z9 := Tryz.sizeOf9
  v9 := Tryz.zeroValue9
  t20 := Tryz.underlying20
  a20 := Tryz.isAgg20
  z20 := Tryz.sizeOf20
  v20 := Tryz.zeroValue20
  t37 := Tryz.underlying97
  a37 := Tryz.isAgg97
  z37 := Tryz.sizeOf97
  v37 := Tryz.zeroValue97
  t46 := Tryz.underlying236
  a46 := Tryz.isAgg236
  z46 := Tryz.sizeOf236
  v46 := Tryz.zeroValue236
  t51 := Tryz.underlying277
  a51 := Tryz.isAgg277
  z51 := Tryz.sizeOf277
  v51 := Tryz.zeroValue277
  t53 := Tryz.underlying250
  a53 := Tryz.isAgg250
  z53 := Tryz.sizeOf250
  v53 := Tryz.zeroValue250
  t171 := Tryz.underlying249
  a171 := Tryz.isAgg249
  z171 := Tryz.sizeOf249
  v171 := Tryz.zeroValue249
  t173 := Tryz.underlying253
  a173 := Tryz.isAgg253
  z173 := Tryz.sizeOf253
  v173 := Tryz.zeroValue253
  t212 := Tryz.underlying281
  a212 := Tryz.isAgg281
  z212 := Tryz.sizeOf281
  v212 := Tryz.zeroValue281
  t213 := Tryz.underlying282
  a213 := Tryz.isAgg282
  z213 := Tryz.sizeOf282
  t232 := Tryz.underlying327
  a232 := Tryz.isAgg327
  z232 := Tryz.sizeOf327
  v232 := Tryz.zeroValue327
  t233 := Tryz.underlying328
  a233 := Tryz.isAgg328
  z233 := Tryz.sizeOf328
  v233 := Tryz.zeroValue328
  g17 := by kernel_rfl
  g18 := by kernel_rfl
  g19 := by kernel_rfl
  i0 := by kernel_rfl
  i2 := by kernel_rfl
  i3 := by kernel_rfl
  i4 := by kernel_rfl
  i5 := by kernel_rfl
  i9 := by kernel_rfl
  i20 := by kernel_rfl
  i37 := by kernel_rfl
  i46 := by kernel_rfl
  i51 := by kernel_rfl
  i53 := by kernel_rfl
  i171 := by kernel_rfl
  i173 := by kernel_rfl
  i212 := by kernel_rfl
  i232 := by kernel_rfl
  i233 := by kernel_rfl
  m17 := by kernel_rfl
  m18 := by kernel_rfl
  m19 := by kernel_rfl }
open Go.RowKit Go.Sort Go.Lib in
/-- strconv.Itoa: "Itoa is equivalent to FormatInt(int64(i), 10).": i's DECIMAL NUMERAL ('Lib.itoa': a '-' where i is negative, then the digits), FOR EVERY int. The world behind the call: the world before it, new blocks behind the heap (the library's 'var a [24]byte'), draws. (LAID: no walk: one application.) -/
theorem Tryz.strconv_Itoa (n : Int) (h0 : -9223372036854775808 ≤ n) (h1 : n ≤ 9223372036854775807) (w : World) (htab : Lib.TabIs Tryz.prog w "internal/strconv.uint64pow10" .u64 Lib.pow10Tab) :
    Calls Tryz.prog 57 #[.int .i64 n] w fun e w' => e = .returned (.string ⟨(Lib.itoa n).toArray⟩) ∧ ∃ k os, w' = grow (w.drewN k) os := Any.strconv_Itoa Tryz.laysM171 n h0 h1 w htab
def Tryz.lays99_ren : Go.Shelf.Ren := ⟨fun | 99 => 152 | 206 => 208 | n => n, fun | 9 => 9 | 4 => 4 | 3 => 3 | n => n, fun | n => n⟩
theorem Tryz.lays99 : Go.Proofs.Lays.n99 Tryz.prog Tryz.lays99_ren := {
  mixed := by kernel_rfl
  f99 := Tryz.func152.trans (congrArg some (by kernel_rfl))
  f206 := Tryz.func208.trans (congrArg some (by kernel_rfl))
  t3 := Tryz.underlying3
  a3 := Tryz.isAgg3
  z3 := Tryz.sizeOf3
  v3 := Tryz.zeroValue3
  t4 := Tryz.underlying4
  a4 := Tryz.isAgg4
  z4 := Tryz.sizeOf4
  v4 := Tryz.zeroValue4
  t9 := Tryz.underlying9
  a9 := Tryz.isAgg9
  z9 := Tryz.sizeOf9
  v9 := Tryz.zeroValue9 }
open Go.RowKit Go.Lib in
/-- strings.HasPrefix: "HasPrefix reports whether the string s begins with prefix.": IT RETURNS 'Lib.hasPrefix s prefix'; the world is as it was. (LAID: no walk: one application.) -/
theorem Tryz.strings_HasPrefix (s p : ByteArray) (w : World) :
    Calls Tryz.prog 152 #[.string s, .string p] w fun e w' => e = .returned (.bool (Lib.hasPrefix s.data.toList p.data.toList)) ∧ w' = w := Any.strings_HasPrefix Tryz.lays99 s p w
def Tryz.lays110_ren : Go.Shelf.Ren := ⟨fun | 110 => 219 | 109 => 273 | n => n, fun | 31 => 92 | 9 => 9 | 4 => 4 | 3 => 3 | 0 => 0 | n => n, fun | n => n⟩
theorem Tryz.lays110 : Go.Proofs.Lays.n110 Tryz.prog Tryz.lays110_ren := {
  mixed := by kernel_rfl
  f109 := Tryz.func273.trans (congrArg some (by kernel_rfl))
  f110 := Tryz.func219.trans (congrArg some (by kernel_rfl))
  t0 := Tryz.underlying0
  a0 := Tryz.isAgg0
  z0 := Tryz.sizeOf0
  v0 := Tryz.zeroValue0
  t3 := Tryz.underlying3
  a3 := Tryz.isAgg3
  z3 := Tryz.sizeOf3
  v3 := Tryz.zeroValue3
  t4 := Tryz.underlying4
  a4 := Tryz.isAgg4
  z4 := Tryz.sizeOf4
  v4 := Tryz.zeroValue4
  t9 := Tryz.underlying9
  a9 := Tryz.isAgg9
  z9 := Tryz.sizeOf9
  v9 := Tryz.zeroValue9
  t31 := Tryz.underlying92
  a31 := Tryz.isAgg92
  z31 := Tryz.sizeOf92
  v31 := Tryz.zeroValue92 }
open Go.Lib in
/-- slices.Contains at []string: "Contains reports whether v is present in s.": IT RETURNS 'Lib.containsS (the elements) v', which is true just where v is among them ('Lib.containsS_iff'); the world is as it was. ITS CALLEE slices.Index IS MET BY ITS OWN CONTRACT OFF THE SHELF (lay that first): no loop is walked here. (LAID: no walk: one application.) -/
theorem Tryz.slices_Contains_string (b off n c : Nat) (zs : List ByteArray) (x : ByteArray) (w : World) (hz : n ≤ zs.length) (hbig : n ≤ 9223372036854775807) (hc : ∀ j, j < zs.length → w.cell? ⟨b, off + j, none⟩ = some (.string (zs.getD j ByteArray.empty))) :
    Calls Tryz.prog 219 #[.slice (some ⟨b, off, none⟩) n c, .string x] w fun e w' => e = .returned (.bool (Lib.containsS (zs.take n) x)) ∧ w' = w := Any.slices_Contains_string Tryz.lays110 b off n c zs x w hz hbig hc
end Go.Proofs

/- The walks of the scanner's own methods: sign, run; the two-sign signs. -/
namespace Go.Proofs.YtogdmcebojiojaaGreatDoor
open Go.RowKit
set_option linter.unusedVariables false

set_option maxHeartbeats 400000 in
theorem sign_any (g : Nat) (s : ByteArray) (i : Nat) (w : World) (hs : s.size ≤ 4000) (h0 : i < s.size) (hb : Blk w g 152 #[.string s, .int .i64 i]) :
    Calls Tryz.prog 144 #[.pointer (some ⟨g, 0, none⟩)] w fun e w' => e = .returned (.int .u8 s[i].toNat) ∧ ∃ q, w' = w.drewN q := by
  have c0 : w.cell? ⟨g, 0, none⟩ = some (.string s) := hb.cell 0
  have c1 : w.cell? ⟨g, 1, none⟩ = some (.int .i64 i) := hb.cell 1
  have hlt' : (i : Int) < (s.size : Int) := by omega
  clear hb
  go_enter Tryz.func144, Tryz.ntmps144
  go_wp2
  go_quiet (fail)
  go_wp2
  go_quiet (fail)
  go_wp2
  go_ret
  exact ⟨rfl, _, World.drewN_drewN _ _ _⟩

theorem tw_in {p : UInt8 → Bool} {l : List UInt8} {c : UInt8} {j n : Nat} (hd : l.drop j = c :: l.drop (j + 1)) (hp : p c = true) (h : j + ((l.drop j).takeWhile p).length = n) : j + 1 + ((l.drop (j + 1)).takeWhile p).length = n := by
  rw [hd, List.takeWhile_cons, if_pos hp] at h; simp at h; omega
theorem tw_out {p : UInt8 → Bool} {l : List UInt8} {c : UInt8} {j n : Nat} (hd : l.drop j = c :: l.drop (j + 1)) (hp : p c = false) (h : j + ((l.drop j).takeWhile p).length = n) : j = n := by
  rw [hd, List.takeWhile_cons, if_neg (by simp [hp])] at h; simp at h; omega
theorem tw_end {p : UInt8 → Bool} {l : List UInt8} {j n : Nat} (hl : l.length ≤ j) (h : j + ((l.drop j).takeWhile p).length = n) : j = n := by
  rw [List.drop_of_length_le hl] at h; simpa using h
theorem tw_le {p : UInt8 → Bool} {l : List UInt8} {j : Nat} (hj : j ≤ l.length) : j + ((l.drop j).takeWhile p).length ≤ l.length := by
  have := (List.takeWhile_sublist p (l := l.drop j)).length_le
  simp at this; omega

set_option maxHeartbeats 1000000 in
/-- A run of bytes of which a function says that they go on. -/
theorem run_any (F : FuncId) (p : Nat → Bool) (eg : ∀ args w, (callFunc F args).run Tryz.prog w = .ok (.enter F args) w) (hf : ∀ n : Nat, n < 256 → ∀ W, Calls Tryz.prog F #[.int .u8 n] W fun e w' => e = .returned (.bool (p n)) ∧ W = w')
    (g : Nat) (s : ByteArray) (i : Nat) (w : World) (hs : s.size ≤ 4000) (h0 : i ≤ s.size) (hb : Blk w g 152 #[.string s, .int .i64 i]) :
    Calls Tryz.prog 146 #[.pointer (some ⟨g, 0, none⟩), .func (.func F) #[] #[]] w fun e w' =>
      e = .returned (.string (s.extract i (i + ((s.data.toList.drop i).takeWhile fun c => p c.toNat).length))) ∧
      Blk w' g 152 #[.string s, .int .i64 ↑(i + ((s.data.toList.drop i).takeWhile fun c => p c.toNat).length)] ∧ w.grownBy w' (some g) := by
  have cc0 : w.cell? ⟨g, 0, none⟩ = some (.string s) := hb.cell 0
  have cc1 : w.cell? ⟨g, 1, none⟩ = some (.int .i64 i) := hb.cell 1
  have hle := tw_le (p := fun c => p c.toNat) (l := s.data.toList) (j := i) (by simpa using h0)
  rw [data_len] at hle
  have HB := Lib.hid hb
  have HF := Lib.hid hf
  clear hf hb
  generalize hn : i + ((s.data.toList.drop i).takeWhile fun c => p c.toNat).length = n at hle
  have HN := Lib.hid hn
  have hin : i ≤ n := by omega
  clear hn
  go_enter Tryz.func146, Tryz.ntmps146
  go_wp2_with fail
  go_loopg [] (s.size) (fun k wr => ∃ j : Nat, i ≤ j ∧ j ≤ s.size ∧ s.size - j ≤ k ∧ Hid (Blk wr g 152 #[.string s, .int .i64 j]) ∧ Hid (j + ((s.data.toList.drop j).takeWhile fun c => p c.toNat).length = n) ∧ w.grownBy wr (some g))
  case atStart => exact ⟨i, Nat.le_refl _, h0, by omega, HB.out, HN.out, World.grownBy.refl _ _⟩
  case round =>
    obtain ⟨j, hij, hj, hk, hB, hE, hG⟩ := hrel
    have c0 : wr.cell? ⟨g, 0, none⟩ = some (.string s) := hB.out.cell 0
    have c1 : wr.cell? ⟨g, 1, none⟩ = some (.int .i64 j) := hB.out.cell 1
    have f1 : wr.frozen? ⟨g, 1, none⟩ = false := hB.out.frozen 1
    clear cc0 cc1
    by_cases hlt : j < s.size
    · have hlt' : (j : Int) < (s.size : Int) := by omega
      have hd := Lib.hid (data_drop s j hlt)
      have hc := fun W => HF.out s[j].toNat (UInt8.toNat_lt _) W
      cases hp : p s[j].toNat with
      | true =>
        simp only [hp] at hc
        have HC := Lib.hid hc
        have HP := Lib.hid hp
        clear hc hp
        go_wp2_with fail
        go_quiet ((go_at_fn F; exact quiet_left (HC.out _)))
        go_wp2_with fail
        go_roundg (s.size - (j + 1))
        case measure => omega
        case rel => exact ⟨j + 1, by omega, by omega, by omega, (hB.out.drewN _).set_ 1 _, tw_in hd.out HP.out hE.out, only_setCell (only_drewN hG _) (.inl rfl) _⟩
      | false =>
        simp only [hp] at hc
        have HC := Lib.hid hc
        have HP := Lib.hid hp
        clear hc hp
        go_wp2_with fail
        go_quiet ((go_at_fn F; exact quiet_left (HC.out _)))
        go_wp2_with fail
        go_quiet (fail)
        go_wp2_with fail
        go_ret
        obtain rfl := tw_out (p := fun c => p c.toNat) hd.out HP.out hE.out
        exact ⟨rfl, (hB.out.drewN _).drewN _, only_drewN (only_drewN hG _) _⟩
    · have hlt' : decide ((j : Int) < (s.size : Int)) = false := by simp; omega
      go_wp2_with fail
      go_quiet (fail)
      go_wp2_with fail
      go_quiet (fail)
      go_wp2_with fail
      go_ret
      obtain rfl := tw_end (by simpa using hlt) hE.out
      exact ⟨rfl, (hB.out.drewN _).drewN _, only_drewN (only_drewN hG _) _⟩
end Go.Proofs.YtogdmcebojiojaaGreatDoor

/- The walk of the scanner's token. -/
namespace Go.Proofs.YtogdmcebojiojaaGreatDoor
open Go.RowKit
set_option linter.unusedVariables false

theorem enters_word : ∀ args w, (callFunc 147 args).run Tryz.prog w = .ok (.enter 147 args) w := fun _ _ => by kernel_rfl
theorem enters_digit : ∀ args w, (callFunc 148 args).run Tryz.prog w = .ok (.enter 148 args) w := fun _ _ => by kernel_rfl

theorem Blk.new' {w : World} {g : Nat} (t : TypeId) (cs : Array Value) (h : g = w.heap.size) : Blk (w.alloc (.cells cs t)) g t cs := by subst h; exact Blk.new w t cs

theorem Blk.far' {w : World} {g : Nat} {t : TypeId} {cs : Array Value} {p : Addr} {u : Value} (hp : g ≠ p.block) (h : Blk w g t cs) : Blk (w.setCell p u) g t cs := h.far hp u
theorem Blk.set' {w : World} {g i : Nat} {t : TypeId} {cs cs' : Array Value} {u : Value} (e : cs.setIfInBounds i u = cs') (h : Blk w g t cs) : Blk (w.setCell ⟨g, i, none⟩ u) g t cs' := by subst e; exact h.set_ i u

set_option maxHeartbeats 1000000 in
theorem token_letter (g : Nat) (s : ByteArray) (i : Nat) (w : World) (hs : s.size ≤ 4000) (h0 : i < s.size) (hb : Blk w g 152 #[.string s, .int .i64 i]) (hl : isLN s[i].toNat = true) :
    Calls Tryz.prog 92 #[.pointer (some ⟨g, 0, none⟩)] w fun e w' => ∃ n er, e = .returned (.tuple #[.agg #[.int .i64 1, .int .i64 i, .string (s.extract i (i + n))], .int .i64 er]) ∧
      n = ((s.data.toList.drop i).takeWhile fun c => isLN c.toNat || isDN c.toNat).length ∧ er = (if n > 12 then 2 else 0) ∧ Blk w' g 152 #[.string s, .int .i64 ↑(i + n)] ∧ w.grownBy w' (some g) := by
  have HB := Lib.hid hb
  have c0 : w.cell? ⟨g, 0, none⟩ = some (.string s) := hb.cell 0
  have c1 : w.cell? ⟨g, 1, none⟩ = some (.int .i64 i) := hb.cell 1
  have hgl := hb.lt
  have hss := UInt8.toNat_lt s[i]
  have hle := tw_le (p := fun c => isLN c.toNat || isDN c.toNat) (l := s.data.toList) (j := i) (by simp; omega)
  clear hb
  obtain ⟨n, hn⟩ : ∃ n, n = ((s.data.toList.drop i).takeWhile fun c => isLN c.toNat || isDN c.toNat).length := ⟨_, rfl⟩
  rw [data_len, ← hn] at hle
  have HN := Lib.hid hn
  clear hn
  have hrun : ∀ W, Blk W g 152 #[.string s, .int .i64 i] → Calls Tryz.prog 146 #[.pointer (some ⟨g, 0, none⟩), .func (.func 147) #[] #[]] W fun e w' =>
      e = .returned (.string (s.extract i (i + n))) ∧ Blk w' g 152 #[.string s, .int .i64 ↑(i + n)] ∧ W.grownBy w' (some g) := fun W hW => by
    have := run_any 147 (fun n => isLN n || isDN n) enters_word word_any g s i W hs (by omega) hW
    rw [← HN.out] at this; exact this
  have HR := Lib.hid hrun
  clear hrun
  have hsz : (s.extract i (i + n)).size = n := by rw [ByteArray.size_extract]; omega
  go_enter Tryz.func92, Tryz.ntmps92
  go_wp2_with (first
    | (go_at_call 144; refine (sign_any g s i _ hs h0 (by have := HB.out; (repeat' (first | (with_reducible assumption) | (with_reducible refine Blk.drewN ?_ _) | (with_reducible refine Blk.alloc ?_ _) | (with_reducible refine Blk.drew ?_) | (with_reducible refine Blk.far' ?_ ?_; (first | (simp; done) | (simp; omega) | omega)) | (with_reducible apply Blk.set'; rotate_left) | rfl)))).mono ?_; rintro e w' ⟨rfl, q, rfl⟩)
    | (go_at_call 145; refine (letter_any _ (by assumption) _).mono ?_; rintro e w' ⟨rfl, rfl⟩))
  refine (HR.out _ (by have := HB.out; (repeat' (first | (with_reducible assumption) | (with_reducible refine Blk.drewN ?_ _) | (with_reducible refine Blk.alloc ?_ _) | (with_reducible refine Blk.drew ?_) | (with_reducible refine Blk.far' ?_ ?_; (first | (simp; done) | (simp; omega) | omega)) | (with_reducible apply Blk.set'; rotate_left) | rfl)))).mono ?_
  rintro e w1 ⟨rfl, hb1, hg1⟩
  have bt : Blk w1 (w.heap.size + 1 + 1) 154 _ := (((Blk.new' _ _ (by simp)).drewN _).set_ 0 _).grown hg1 (by simp; omega)
  have br : Blk w1 (w.heap.size + 1) 154 _ := ((((Blk.new' _ _ (by simp)).alloc _).drewN _).far (by simp) _).grown hg1 (by simp; omega)
  have t0 : w1.cell? ⟨w.heap.size + 1 + 1, 0, none⟩ = some (.int .i64 1) := bt.cell 0
  have t1 : w1.cell? ⟨w.heap.size + 1 + 1, 1, none⟩ = some (.int .i64 i) := bt.cell 1
  have t2 : w1.cell? ⟨w.heap.size + 1 + 1, 2, none⟩ = some (.string ⟨#[]⟩) := bt.cell 2
  have r0 : w1.cell? ⟨w.heap.size + 1, 0, none⟩ = some (.int .i64 0) := br.cell 0
  have r1 : w1.cell? ⟨w.heap.size + 1, 1, none⟩ = some (.int .i64 0) := br.cell 1
  have r2 : w1.cell? ⟨w.heap.size + 1, 2, none⟩ = some (.string ⟨#[]⟩) := br.cell 2
  have ft : ∀ k, w1.frozen? ⟨w.heap.size + 1 + 1, k, none⟩ = false := bt.frozen
  have fr : ∀ k, w1.frozen? ⟨w.heap.size + 1, k, none⟩ = false := br.frozen
  have hg0 : w.grownBy w1 (some g) := only_trans (only_of_below (by (repeat' (first | (with_reducible exact Below.refl _ _) | (with_reducible assumption) | (with_reducible refine below_drewN ?_ _) | (with_reducible refine Below.alloc ?_ ?_ _) | (with_reducible refine Below.setCell ?_ ?_ _) | (with_reducible refine Below.drew ?_) | go_size))) (some g)) hg1
  have hsz1 : w.heap.size + 1 + 1 < w1.heap.size := bt.lt
  clear hg1 bt br c0 c1
  by_cases h12 : 12 < n
  · go_wp2_with fail
    refine bodyPost_ret (v := .tuple #[.agg #[.int .i64 1, .int .i64 i, .string (s.extract i (i + n))], .int .i64 2]) (by simp [results, Tryz.results92, go_sem, r0, r1, r2]) rfl ⟨n, 2, rfl, HN.out, by rw [if_pos h12], ?_, ?_⟩
    · have := hb1; (repeat' (first | (with_reducible assumption) | (with_reducible refine Blk.drewN ?_ _) | (with_reducible refine Blk.alloc ?_ _) | (with_reducible refine Blk.drew ?_) | (with_reducible refine Blk.far' ?_ ?_; (first | (simp; done) | (simp; omega) | omega)) | (with_reducible apply Blk.set'; rotate_left) | rfl))
    · (repeat' (first | (with_reducible assumption) | (with_reducible exact World.grownBy.refl _ _) | (with_reducible refine only_drewN ?_ _) | (with_reducible refine only_alloc ?_ _) | (with_reducible refine only_setCell ?_ ?_ _) | (with_reducible refine only_drew ?_) | (exact .inl rfl) | (refine .inr ?_; simp; done) | (refine .inr ?_; simp; omega) | (refine .inr ?_; omega)))
  · go_wp2_with fail
    refine bodyPost_ret (v := .tuple #[.agg #[.int .i64 1, .int .i64 i, .string (s.extract i (i + n))], .int .i64 0]) (by simp [results, Tryz.results92, go_sem, r0, r1, r2]) rfl ⟨n, 0, rfl, HN.out, by rw [if_neg h12], ?_, ?_⟩
    · have := hb1; (repeat' (first | (with_reducible assumption) | (with_reducible refine Blk.drewN ?_ _) | (with_reducible refine Blk.alloc ?_ _) | (with_reducible refine Blk.drew ?_) | (with_reducible refine Blk.far' ?_ ?_; (first | (simp; done) | (simp; omega) | omega)) | (with_reducible apply Blk.set'; rotate_left) | rfl))
    · (repeat' (first | (with_reducible assumption) | (with_reducible exact World.grownBy.refl _ _) | (with_reducible refine only_drewN ?_ _) | (with_reducible refine only_alloc ?_ _) | (with_reducible refine only_setCell ?_ ?_ _) | (with_reducible refine only_drew ?_) | (exact .inl rfl) | (refine .inr ?_; simp; done) | (refine .inr ?_; simp; omega) | (refine .inr ?_; omega)))
set_option maxHeartbeats 1000000 in
theorem token_digit (g : Nat) (s : ByteArray) (i : Nat) (w : World) (hs : s.size ≤ 4000) (h0 : i < s.size) (hb : Blk w g 152 #[.string s, .int .i64 i]) (hl0 : isLN s[i].toNat = false) (hl : isDN s[i].toNat = true) :
    Calls Tryz.prog 92 #[.pointer (some ⟨g, 0, none⟩)] w fun e w' => ∃ n er, e = .returned (.tuple #[.agg #[.int .i64 2, .int .i64 i, .string (s.extract i (i + n))], .int .i64 er]) ∧
      n = ((s.data.toList.drop i).takeWhile fun c => isDN c.toNat).length ∧ er = (if n > 4 then 2 else if n > 1 ∧ s[i] = 48 then 1 else 0) ∧ Blk w' g 152 #[.string s, .int .i64 ↑(i + n)] ∧ w.grownBy w' (some g) := by
  have HB := Lib.hid hb
  have c0 : w.cell? ⟨g, 0, none⟩ = some (.string s) := hb.cell 0
  have c1 : w.cell? ⟨g, 1, none⟩ = some (.int .i64 i) := hb.cell 1
  have hgl := hb.lt
  have hss := UInt8.toNat_lt s[i]
  have hle := tw_le (p := fun c => isDN c.toNat) (l := s.data.toList) (j := i) (by simp; omega)
  clear hb
  obtain ⟨n, hn⟩ : ∃ n, n = ((s.data.toList.drop i).takeWhile fun c => isDN c.toNat).length := ⟨_, rfl⟩
  rw [data_len, ← hn] at hle
  have HN := Lib.hid hn
  clear hn
  have hrun : ∀ W, Blk W g 152 #[.string s, .int .i64 i] → Calls Tryz.prog 146 #[.pointer (some ⟨g, 0, none⟩), .func (.func 148) #[] #[]] W fun e w' =>
      e = .returned (.string (s.extract i (i + n))) ∧ Blk w' g 152 #[.string s, .int .i64 ↑(i + n)] ∧ W.grownBy w' (some g) := fun W hW => by
    have := run_any 148 (fun n => isDN n) enters_digit digit_any g s i W hs (by omega) hW
    rw [← HN.out] at this; exact this
  have HR := Lib.hid hrun
  clear hrun
  have hsz : (s.extract i (i + n)).size = n := by rw [ByteArray.size_extract]; omega
  go_enter Tryz.func92, Tryz.ntmps92
  go_wp2_with (first
    | (go_at_call 144; refine (sign_any g s i _ hs h0 (by have := HB.out; (repeat' (first | (with_reducible assumption) | (with_reducible refine Blk.drewN ?_ _) | (with_reducible refine Blk.alloc ?_ _) | (with_reducible refine Blk.drew ?_) | (with_reducible refine Blk.far' ?_ ?_; (first | (simp; done) | (simp; omega) | omega)) | (with_reducible apply Blk.set'; rotate_left) | rfl)))).mono ?_; rintro e w' ⟨rfl, q, rfl⟩)
    | (go_at_call 145; refine (letter_any _ (by assumption) _).mono ?_; rintro e w' ⟨rfl, rfl⟩)
    | (go_at_call 148; refine (digit_any _ (by assumption) _).mono ?_; rintro e w' ⟨rfl, rfl⟩))
  refine (HR.out _ (by have := HB.out; (repeat' (first | (with_reducible assumption) | (with_reducible refine Blk.drewN ?_ _) | (with_reducible refine Blk.alloc ?_ _) | (with_reducible refine Blk.drew ?_) | (with_reducible refine Blk.far' ?_ ?_; (first | (simp; done) | (simp; omega) | omega)) | (with_reducible apply Blk.set'; rotate_left) | rfl)))).mono ?_
  rintro e w1 ⟨rfl, hb1, hg1⟩
  have bt : Blk w1 (w.heap.size + 1 + 1) 154 _ := (((Blk.new' _ _ (by simp)).drewN _).set_ 0 _).grown hg1 (by simp; omega)
  have br : Blk w1 (w.heap.size + 1) 154 _ := ((((Blk.new' _ _ (by simp)).alloc _).drewN _).far (by simp) _).grown hg1 (by simp; omega)
  have t0 : w1.cell? ⟨w.heap.size + 1 + 1, 0, none⟩ = some (.int .i64 2) := bt.cell 0
  have t1 : w1.cell? ⟨w.heap.size + 1 + 1, 1, none⟩ = some (.int .i64 i) := bt.cell 1
  have t2 : w1.cell? ⟨w.heap.size + 1 + 1, 2, none⟩ = some (.string ⟨#[]⟩) := bt.cell 2
  have r0 : w1.cell? ⟨w.heap.size + 1, 0, none⟩ = some (.int .i64 0) := br.cell 0
  have r1 : w1.cell? ⟨w.heap.size + 1, 1, none⟩ = some (.int .i64 0) := br.cell 1
  have r2 : w1.cell? ⟨w.heap.size + 1, 2, none⟩ = some (.string ⟨#[]⟩) := br.cell 2
  have ft : ∀ k, w1.frozen? ⟨w.heap.size + 1 + 1, k, none⟩ = false := bt.frozen
  have fr : ∀ k, w1.frozen? ⟨w.heap.size + 1, k, none⟩ = false := br.frozen
  have hg0 : w.grownBy w1 (some g) := only_trans (only_of_below (by (repeat' (first | (with_reducible exact Below.refl _ _) | (with_reducible assumption) | (with_reducible refine below_drewN ?_ _) | (with_reducible refine Below.alloc ?_ ?_ _) | (with_reducible refine Below.setCell ?_ ?_ _) | (with_reducible refine Below.drew ?_) | go_size))) (some g)) hg1
  have hsz1 : w.heap.size + 1 + 1 < w1.heap.size := bt.lt
  clear hg1 bt br c0 c1
  by_cases h4 : 4 < n
  · go_wp2_with fail
    refine bodyPost_ret (v := .tuple #[.agg #[.int .i64 2, .int .i64 i, .string (s.extract i (i + n))], .int .i64 2]) (by simp [results, Tryz.results92, go_sem, r0, r1, r2]) rfl ⟨n, 2, rfl, HN.out, by rw [if_pos h4], ?_, ?_⟩
    · have := hb1; (repeat' (first | (with_reducible assumption) | (with_reducible refine Blk.drewN ?_ _) | (with_reducible refine Blk.alloc ?_ _) | (with_reducible refine Blk.drew ?_) | (with_reducible refine Blk.far' ?_ ?_; (first | (simp; done) | (simp; omega) | omega)) | (with_reducible apply Blk.set'; rotate_left) | rfl))
    · (repeat' (first | (with_reducible assumption) | (with_reducible exact World.grownBy.refl _ _) | (with_reducible refine only_drewN ?_ _) | (with_reducible refine only_alloc ?_ _) | (with_reducible refine only_setCell ?_ ?_ _) | (with_reducible refine only_drew ?_) | (exact .inl rfl) | (refine .inr ?_; simp; done) | (refine .inr ?_; simp; omega) | (refine .inr ?_; omega)))
  · by_cases h1 : 1 < n
    · by_cases h48 : s[i] = 48
      · have y48 := byte_eq (k := 48) (by omega) h48
        have H48 := Lib.hid h48
        clear h48
        go_wp2_with fail
        refine bodyPost_ret (v := .tuple #[.agg #[.int .i64 2, .int .i64 i, .string (s.extract i (i + n))], .int .i64 1]) (by simp [results, Tryz.results92, go_sem, r0, r1, r2]) rfl ⟨n, 1, rfl, HN.out, by rw [if_neg h4, if_pos ⟨h1, H48.out⟩], ?_, ?_⟩
        · have := hb1; (repeat' (first | (with_reducible assumption) | (with_reducible refine Blk.drewN ?_ _) | (with_reducible refine Blk.alloc ?_ _) | (with_reducible refine Blk.drew ?_) | (with_reducible refine Blk.far' ?_ ?_; (first | (simp; done) | (simp; omega) | omega)) | (with_reducible apply Blk.set'; rotate_left) | rfl))
        · (repeat' (first | (with_reducible assumption) | (with_reducible exact World.grownBy.refl _ _) | (with_reducible refine only_drewN ?_ _) | (with_reducible refine only_alloc ?_ _) | (with_reducible refine only_setCell ?_ ?_ _) | (with_reducible refine only_drew ?_) | (exact .inl rfl) | (refine .inr ?_; simp; done) | (refine .inr ?_; simp; omega) | (refine .inr ?_; omega)))
      · have y48 := byte_ne (k := 48) (by omega) h48
        go_wp2_with fail
        refine bodyPost_ret (v := .tuple #[.agg #[.int .i64 2, .int .i64 i, .string (s.extract i (i + n))], .int .i64 0]) (by simp [results, Tryz.results92, go_sem, r0, r1, r2]) rfl ⟨n, 0, rfl, HN.out, by rw [if_neg h4, if_neg (fun h => h48 h.2)], ?_, ?_⟩
        · have := hb1; (repeat' (first | (with_reducible assumption) | (with_reducible refine Blk.drewN ?_ _) | (with_reducible refine Blk.alloc ?_ _) | (with_reducible refine Blk.drew ?_) | (with_reducible refine Blk.far' ?_ ?_; (first | (simp; done) | (simp; omega) | omega)) | (with_reducible apply Blk.set'; rotate_left) | rfl))
        · (repeat' (first | (with_reducible assumption) | (with_reducible exact World.grownBy.refl _ _) | (with_reducible refine only_drewN ?_ _) | (with_reducible refine only_alloc ?_ _) | (with_reducible refine only_setCell ?_ ?_ _) | (with_reducible refine only_drew ?_) | (exact .inl rfl) | (refine .inr ?_; simp; done) | (refine .inr ?_; simp; omega) | (refine .inr ?_; omega)))
    · have h1' : decide ((1 : Int) < (n : Int)) = false := by simp; omega
      go_wp2_with fail
      refine bodyPost_ret (v := .tuple #[.agg #[.int .i64 2, .int .i64 i, .string (s.extract i (i + n))], .int .i64 0]) (by simp [results, Tryz.results92, go_sem, r0, r1, r2]) rfl ⟨n, 0, rfl, HN.out, by rw [if_neg h4, if_neg (fun h => h1 h.1)], ?_, ?_⟩
      · have := hb1; (repeat' (first | (with_reducible assumption) | (with_reducible refine Blk.drewN ?_ _) | (with_reducible refine Blk.alloc ?_ _) | (with_reducible refine Blk.drew ?_) | (with_reducible refine Blk.far' ?_ ?_; (first | (simp; done) | (simp; omega) | omega)) | (with_reducible apply Blk.set'; rotate_left) | rfl))
      · (repeat' (first | (with_reducible assumption) | (with_reducible exact World.grownBy.refl _ _) | (with_reducible refine only_drewN ?_ _) | (with_reducible refine only_alloc ?_ _) | (with_reducible refine only_setCell ?_ ?_ _) | (with_reducible refine only_drew ?_) | (exact .inl rfl) | (refine .inr ?_; simp; done) | (refine .inr ?_; simp; omega) | (refine .inr ?_; omega)))
end Go.Proofs.YtogdmcebojiojaaGreatDoor

/- The walk of the scanner's token: signs. -/
namespace Go.Proofs.YtogdmcebojiojaaGreatDoor
open Go.RowKit
set_option linter.unusedVariables false

def pairsL : List ByteArray := [bs [46, 46], bs [60, 61], bs [62, 61], bs [61, 61], bs [33, 61]]
theorem pairs_any (w : World) : Calls Tryz.prog 150 #[] w fun e w' => ∃ v, e = .returned v ∧ Rds w' v pairsL ∧ Below w.heap.size w w' := by
  go_enter Tryz.func150, Tryz.ntmps150
  go_wp2_with fail
  go_ret
  refine ⟨_, rfl, ⟨[_], rfl, some ⟨w.heap.size, 0, none⟩, 5, rfl, by decide, by decide, by decide, (fun e => by cases e), fun _ => ⟨_, 0, rfl, by simp, fun i x hx => ?_⟩⟩, by (repeat' (first | (with_reducible exact Below.refl _ _) | (with_reducible assumption) | (with_reducible refine below_drewN ?_ _) | (with_reducible refine Below.alloc ?_ ?_ _) | (with_reducible refine Below.setCell ?_ ?_ _) | (with_reducible refine Below.drew ?_) | go_size))⟩
  match i, hx with
  | 0, hx => simp [pairsL] at hx; subst hx; exact ⟨[_], ⟨rfl, by decide⟩, fun j u hu => by cases j <;> simp at hu; subst hu; simp [Rep.size]; rfl⟩
  | 1, hx => simp [pairsL] at hx; subst hx; exact ⟨[_], ⟨rfl, by decide⟩, fun j u hu => by cases j <;> simp at hu; subst hu; simp [Rep.size]; rfl⟩
  | 2, hx => simp [pairsL] at hx; subst hx; exact ⟨[_], ⟨rfl, by decide⟩, fun j u hu => by cases j <;> simp at hu; subst hu; simp [Rep.size]; rfl⟩
  | 3, hx => simp [pairsL] at hx; subst hx; exact ⟨[_], ⟨rfl, by decide⟩, fun j u hu => by cases j <;> simp at hu; subst hu; simp [Rep.size]; rfl⟩
  | 4, hx => simp [pairsL] at hx; subst hx; exact ⟨[_], ⟨rfl, by decide⟩, fun j u hu => by cases j <;> simp at hu; subst hu; simp [Rep.size]; rfl⟩
  | i + 5, hx => simp [pairsL] at hx

theorem pairs_two (l : List UInt8) : (pairsL.any fun p => Lib.hasPrefix l p.data.toList) = isTwo l := by
  match l with
  | [] => rfl
  | [a] => simp [pairsL, isTwo, Lib.hasPrefix, bs, List.isPrefixOf]
  | a :: b :: l =>
    simp only [pairsL, isTwo, Lib.hasPrefix, bs, List.isPrefixOf, List.any_cons, List.any_nil, Bool.and_true, Bool.or_false]
    rw [Bool.eq_iff_iff]
    simp only [Bool.or_eq_true, Bool.and_eq_true, beq_iff_eq]
    constructor
    · rintro (⟨h1, h2⟩ | ⟨h1, h2⟩ | ⟨h1, h2⟩ | ⟨h1, h2⟩ | ⟨h1, h2⟩) <;> subst h1 h2 <;> simp
    · rintro ((((⟨h1, h2⟩ | ⟨h1, h2⟩) | ⟨h1, h2⟩) | ⟨h1, h2⟩) | ⟨h1, h2⟩) <;> subst h1 h2 <;> simp

set_option maxHeartbeats 400000 in
theorem prefix_any (g n0 : Nat) (s p : ByteArray) (i : Nat) (w : World) (hs : s.size ≤ 4000) (h0 : i ≤ s.size) (hc : w.cell? ⟨n0, 0, none⟩ = some (.pointer (some ⟨g, 0, none⟩))) (hb : Blk w g 152 #[.string s, .int .i64 i]) :
    Calls Tryz.prog 151 (#[.string p] ++ #[.pointer (some ⟨n0, 0, none⟩)]) w fun e w' => e = .returned (.bool (Lib.hasPrefix (s.data.toList.drop i) p.data.toList)) ∧ Below w.heap.size w w' := by
  have c0 : w.cell? ⟨g, 0, none⟩ = some (.string s) := hb.cell 0
  have c1 : w.cell? ⟨g, 1, none⟩ = some (.int .i64 i) := hb.cell 1
  have hlt' : (i : Int) ≤ (s.size : Int) := by omega
  clear hb
  have he : (s.extract i s.size).data.toList = s.data.toList.drop i := by
    rw [ByteArray.data_extract]; simp
    rw [List.take_of_length_le (by simp)]
  rw [← he]
  clear he
  show Calls Tryz.prog 151 #[.string p, .pointer (some ⟨n0, 0, none⟩)] w _
  go_enter Tryz.func151, Tryz.ntmps151
  go_wp2_with fail
  go_quiet ((go_at_call 152; exact Calls.quiet_of_same (Tryz.strings_HasPrefix _ _ _)))
  go_wp2_with fail
  go_ret
  exact ⟨rfl, by (repeat' (first | (with_reducible exact Below.refl _ _) | (with_reducible assumption) | (with_reducible refine below_drewN ?_ _) | (with_reducible refine Below.alloc ?_ ?_ _) | (with_reducible refine Below.setCell ?_ ?_ _) | (with_reducible refine Below.drew ?_) | go_size))⟩

theorem enters_prefix : ∀ args w, (callFunc 151 args).run Tryz.prog w = .ok (.enter 151 args) w := fun _ _ => by kernel_rfl
/-- The test for a sign of two. -/
theorem two_any (g n0 : Nat) (s : ByteArray) (i : Nat) (w : World) (hs : s.size ≤ 4000) (h0 : i ≤ s.size) (hn : n0 < w.heap.size) (hc : w.cell? ⟨n0, 0, none⟩ = some (.pointer (some ⟨g, 0, none⟩))) (hb : Blk w g 152 #[.string s, .int .i64 i])
    (v : Value) (hv : Rds w v pairsL) :
    Calls Tryz.prog 149 #[v, .func (.func 151) #[] #[.pointer (some ⟨n0, 0, none⟩)]] w fun e w' => e = .returned (.bool (isTwo (s.data.toList.drop i))) ∧ Below w.heap.size w w' := by
  rw [← pairs_two]
  refine containsFunc_str _ _ enters_prefix v pairsL (fun p => Lib.hasPrefix (s.data.toList.drop i) p.data.toList) w hv fun W u x _ hb' hx => ?_
  obtain ⟨rfl, _⟩ := rdV_str hx
  exact prefix_any g n0 s x i W hs h0 ((hb'.cell (p := ⟨n0, 0, none⟩) hn).trans hc) (hb.below hb' hb.lt)

set_option maxHeartbeats 1000000 in
theorem token_two (g : Nat) (s : ByteArray) (i : Nat) (w : World) (hs : s.size ≤ 4000) (h0 : i < s.size) (hb : Blk w g 152 #[.string s, .int .i64 i]) (hl : isLN s[i].toNat = false) (hd : isDN s[i].toNat = false) (ht : isTwo (s.data.toList.drop i) = true) (h2 : i + 2 ≤ s.size) :
    Calls Tryz.prog 92 #[.pointer (some ⟨g, 0, none⟩)] w fun e w' => e = .returned (.tuple #[.agg #[.int .i64 3, .int .i64 i, .string (s.extract i (i + 2))], .int .i64 0]) ∧
      Blk w' g 152 #[.string s, .int .i64 ↑(i + 2)] ∧ w.grownBy w' (some g) := by
  have HB := Lib.hid hb
  have c0 : w.cell? ⟨g, 0, none⟩ = some (.string s) := hb.cell 0
  have c1 : w.cell? ⟨g, 1, none⟩ = some (.int .i64 i) := hb.cell 1
  have hgl := hb.lt
  have hss := UInt8.toNat_lt s[i]
  clear hb
  go_enter Tryz.func92, Tryz.ntmps92
  go_wp2_with (first
    | (go_at_call 144; refine (sign_any g s i _ hs h0 (by have := HB.out; (repeat' (first | (with_reducible assumption) | (with_reducible refine Blk.drewN ?_ _) | (with_reducible refine Blk.alloc ?_ _) | (with_reducible refine Blk.drew ?_) | (with_reducible refine Blk.far' ?_ ?_; (first | (simp; done) | (simp; omega) | omega)) | (with_reducible apply Blk.set'; rotate_left) | rfl)))).mono ?_; rintro e w' ⟨rfl, q, rfl⟩)
    | (go_at_call 145; refine (letter_any _ (by assumption) _).mono ?_; rintro e w' ⟨rfl, rfl⟩)
    | (go_at_call 148; refine (digit_any _ (by assumption) _).mono ?_; rintro e w' ⟨rfl, rfl⟩)
    | (go_at_call 150; refine (pairs_any _).mono ?_; rintro e w1 ⟨v, rfl, hv, hb1⟩))
  have g1 : Blk w1 g 152 #[.string s, .int .i64 i] := Blk.below (by have := HB.out; (repeat' (first | (with_reducible assumption) | (with_reducible refine Blk.drewN ?_ _) | (with_reducible refine Blk.alloc ?_ _) | (with_reducible refine Blk.drew ?_) | (with_reducible refine Blk.far' ?_ ?_; (first | (simp; done) | (simp; omega) | omega)) | (with_reducible apply Blk.set'; rotate_left) | rfl))) hb1 (by simp; omega)
  have bc : Blk w1 w.heap.size _ _ := Blk.below ((((Blk.new' _ _ rfl).alloc _).alloc _).drewN _) hb1 (by simp; omega)
  have br : Blk w1 (w.heap.size + 1) _ _ := Blk.below (((Blk.new' _ _ (by simp)).alloc _).drewN _) hb1 (by simp)
  have bt : Blk w1 (w.heap.size + 1 + 1) _ _ := Blk.below ((Blk.new' _ _ (by simp)).drewN _) hb1 (by simp)
  have hb0 : Below w.heap.size w w1 := bstep (by (repeat' (first | (with_reducible exact Below.refl _ _) | (with_reducible assumption) | (with_reducible refine below_drewN ?_ _) | (with_reducible refine Below.alloc ?_ ?_ _) | (with_reducible refine Below.setCell ?_ ?_ _) | (with_reducible refine Below.drew ?_) | go_size))) hb1
  clear hb1
  have HV := Lib.hid hv
  have hn0 := bc.lt
  clear hv
  refine (two_any g w.heap.size s i w1 hs (by omega) hn0 (bc.cell 0) g1 v HV.out).mono ?_
  rintro e w2 ⟨rfl, hb2⟩
  rw [ht]
  have g2 := Lib.hid (g1.below hb2 g1.lt)
  have bc2 := bc.below hb2 bc.lt
  have br2 := br.below hb2 br.lt
  have bt2 := bt.below hb2 bt.lt
  have hs1 : w2.heap.size > w.heap.size + 1 + 1 := bt2.lt
  have hb3 : Below w.heap.size w w2 := bstep hb0 hb2
  clear g1 bc br bt hb2 hb0 hn0 c0 c1 HV
  have c0 : w2.cell? ⟨g, 0, none⟩ = some (.string s) := g2.out.cell 0
  have c1 : w2.cell? ⟨g, 1, none⟩ = some (.int .i64 i) := g2.out.cell 1
  have f1 : w2.frozen? ⟨g, 1, none⟩ = false := g2.out.frozen 1
  have k0 : w2.cell? ⟨w.heap.size, 0, none⟩ = some (.pointer (some ⟨g, 0, none⟩)) := bc2.cell 0
  have t0 : w2.cell? ⟨w.heap.size + 1 + 1, 0, none⟩ = some (.int .i64 3) := bt2.cell 0
  have t1 : w2.cell? ⟨w.heap.size + 1 + 1, 1, none⟩ = some (.int .i64 i) := bt2.cell 1
  have t2 : w2.cell? ⟨w.heap.size + 1 + 1, 2, none⟩ = some (.string ⟨#[]⟩) := bt2.cell 2
  have r0 : w2.cell? ⟨w.heap.size + 1, 0, none⟩ = some (.int .i64 0) := br2.cell 0
  have r1 : w2.cell? ⟨w.heap.size + 1, 1, none⟩ = some (.int .i64 0) := br2.cell 1
  have r2 : w2.cell? ⟨w.heap.size + 1, 2, none⟩ = some (.string ⟨#[]⟩) := br2.cell 2
  have ft : ∀ k, w2.frozen? ⟨w.heap.size + 1 + 1, k, none⟩ = false := bt2.frozen
  have fr : ∀ k, w2.frozen? ⟨w.heap.size + 1, k, none⟩ = false := br2.frozen
  clear bc2 br2 bt2
  have HT := Lib.hid ht
  clear ht
  have q1 : (i : Int) + 2 ≤ (s.size : Int) := by omega
  have q2 : IntKind.i64.wrap ((i : Int) + 2) = (i : Int) + 2 := IntWalk.i64_in _ (by omega)
  have q3 : ((i : Int) + 2).toNat = i + 2 := by omega
  go_wp2_with fail
  go_region
  all_goals
    go_wp2_with fail
    refine bodyPost_ret (v := .tuple #[.agg #[.int .i64 3, .int .i64 i, .string (s.extract i (i + 2))], .int .i64 0]) (by simp [results, Tryz.results92, go_sem, r0, r1, r2]) rfl ⟨rfl, ?_, ?_⟩
    · refine Blk.drew (Blk.far' ?_ (Blk.far' ?_ (Blk.far' ?_ (Blk.set' (by rfl) (Blk.far' ?_ g2.out))))) <;> first | (simp; done) | (simp; omega)
    · have := only_of_below hb3 (some g); (repeat' (first | (with_reducible assumption) | (with_reducible exact World.grownBy.refl _ _) | (with_reducible refine only_drewN ?_ _) | (with_reducible refine only_alloc ?_ _) | (with_reducible refine only_setCell ?_ ?_ _) | (with_reducible refine only_drew ?_) | (exact .inl rfl) | (refine .inr ?_; simp; done) | (refine .inr ?_; simp; omega) | (refine .inr ?_; omega)))
end Go.Proofs.YtogdmcebojiojaaGreatDoor

/- The walk of the scanner's token: signs of one; nothing. -/
namespace Go.Proofs.YtogdmcebojiojaaGreatDoor
open Go.RowKit
set_option linter.unusedVariables false

theorem sign_index (c : UInt8) : isSign c = true ↔ 0 ≤ Lib.indexByte [91, 93, 59, 58, 44, 45] c := by
  constructor
  · intro h
    simp only [isSign, Bool.or_eq_true, beq_iff_eq] at h
    rcases h with ((((h | h) | h) | h) | h) | h <;> subst h <;> decide
  · intro h
    revert h
    simp only [Lib.indexByte, isSign]
    repeat' split
    all_goals simp_all
    all_goals omega
theorem encode_at (s : ByteArray) (i : Nat) (h : i < s.size) (hs : isSign s[i] = true) : Utf8.encode (s[i].toNat : Int) = s.extract i (i + 1) := by
  have h1 : (s.extract i (i + 1)) = ⟨#[s[i]]⟩ := by
    apply ByteArray.ext
    rw [ByteArray.data_extract]
    apply Array.ext'
    have := data_drop s i h
    simp only [Array.toList_extract, List.extract_eq_take_drop]
    rw [this]
    simp
  rw [h1]
  simp only [isSign, Bool.or_eq_true, beq_iff_eq] at hs
  rcases hs with ((((h | h) | h) | h) | h) | h <;> rw [h] <;> decide

set_option maxHeartbeats 1000000 in
theorem token_sign (g : Nat) (s : ByteArray) (i : Nat) (w : World) (hs : s.size ≤ 4000) (h0 : i < s.size) (hb : Blk w g 152 #[.string s, .int .i64 i]) (hl : isLN s[i].toNat = false) (hd : isDN s[i].toNat = false) (ht : isTwo (s.data.toList.drop i) = false) (hsg : isSign s[i] = true) :
    Calls Tryz.prog 92 #[.pointer (some ⟨g, 0, none⟩)] w fun e w' => e = .returned (.tuple #[.agg #[.int .i64 3, .int .i64 i, .string (s.extract i (i + 1))], .int .i64 0]) ∧
      Blk w' g 152 #[.string s, .int .i64 ↑(i + 1)] ∧ w.grownBy w' (some g) := by
  have HB := Lib.hid hb
  have c0 : w.cell? ⟨g, 0, none⟩ = some (.string s) := hb.cell 0
  have c1 : w.cell? ⟨g, 1, none⟩ = some (.int .i64 i) := hb.cell 1
  have hgl := hb.lt
  have hss := UInt8.toNat_lt s[i]
  clear hb
  go_enter Tryz.func92, Tryz.ntmps92
  go_wp2_with (first
    | (go_at_call 144; refine (sign_any g s i _ hs h0 (by have := HB.out; (repeat' (first | (with_reducible assumption) | (with_reducible refine Blk.drewN ?_ _) | (with_reducible refine Blk.alloc ?_ _) | (with_reducible refine Blk.drew ?_) | (with_reducible refine Blk.far' ?_ ?_; (first | (simp; done) | (simp; omega) | omega)) | (with_reducible apply Blk.set'; rotate_left) | rfl)))).mono ?_; rintro e w' ⟨rfl, q, rfl⟩)
    | (go_at_call 145; refine (letter_any _ (by assumption) _).mono ?_; rintro e w' ⟨rfl, rfl⟩)
    | (go_at_call 148; refine (digit_any _ (by assumption) _).mono ?_; rintro e w' ⟨rfl, rfl⟩)
    | (go_at_call 150; refine (pairs_any _).mono ?_; rintro e w1 ⟨v, rfl, hv, hb1⟩))
  have g1 : Blk w1 g 152 #[.string s, .int .i64 i] := Blk.below (by have := HB.out; (repeat' (first | (with_reducible assumption) | (with_reducible refine Blk.drewN ?_ _) | (with_reducible refine Blk.alloc ?_ _) | (with_reducible refine Blk.drew ?_) | (with_reducible refine Blk.far' ?_ ?_; (first | (simp; done) | (simp; omega) | omega)) | (with_reducible apply Blk.set'; rotate_left) | rfl))) hb1 (by simp; omega)
  have bc : Blk w1 w.heap.size _ _ := Blk.below ((((Blk.new' _ _ rfl).alloc _).alloc _).drewN _) hb1 (by simp; omega)
  have br : Blk w1 (w.heap.size + 1) _ _ := Blk.below (((Blk.new' _ _ (by simp)).alloc _).drewN _) hb1 (by simp)
  have bt : Blk w1 (w.heap.size + 1 + 1) _ _ := Blk.below ((Blk.new' _ _ (by simp)).drewN _) hb1 (by simp)
  have hb0 : Below w.heap.size w w1 := bstep (by (repeat' (first | (with_reducible exact Below.refl _ _) | (with_reducible assumption) | (with_reducible refine below_drewN ?_ _) | (with_reducible refine Below.alloc ?_ ?_ _) | (with_reducible refine Below.setCell ?_ ?_ _) | (with_reducible refine Below.drew ?_) | go_size))) hb1
  clear hb1
  have HV := Lib.hid hv
  have hn0 := bc.lt
  clear hv
  refine (two_any g w.heap.size s i w1 hs (by omega) hn0 (bc.cell 0) g1 v HV.out).mono ?_
  rintro e w2 ⟨rfl, hb2⟩
  rw [ht]
  have g2 := Lib.hid (g1.below hb2 g1.lt)
  have bc2 := bc.below hb2 bc.lt
  have br2 := br.below hb2 br.lt
  have bt2 := bt.below hb2 bt.lt
  have hs1 : w2.heap.size > w.heap.size + 1 + 1 := bt2.lt
  have hb3 : Below w.heap.size w w2 := bstep hb0 hb2
  clear g1 bc br bt hb2 hb0 hn0 c0 c1 HV
  have c0 : w2.cell? ⟨g, 0, none⟩ = some (.string s) := g2.out.cell 0
  have c1 : w2.cell? ⟨g, 1, none⟩ = some (.int .i64 i) := g2.out.cell 1
  have f1 : w2.frozen? ⟨g, 1, none⟩ = false := g2.out.frozen 1
  have k0 : w2.cell? ⟨w.heap.size, 0, none⟩ = some (.pointer (some ⟨g, 0, none⟩)) := bc2.cell 0
  have t0 : w2.cell? ⟨w.heap.size + 1 + 1, 0, none⟩ = some (.int .i64 3) := bt2.cell 0
  have t1 : w2.cell? ⟨w.heap.size + 1 + 1, 1, none⟩ = some (.int .i64 i) := bt2.cell 1
  have t2 : w2.cell? ⟨w.heap.size + 1 + 1, 2, none⟩ = some (.string ⟨#[]⟩) := bt2.cell 2
  have r0 : w2.cell? ⟨w.heap.size + 1, 0, none⟩ = some (.int .i64 0) := br2.cell 0
  have r1 : w2.cell? ⟨w.heap.size + 1, 1, none⟩ = some (.int .i64 0) := br2.cell 1
  have r2 : w2.cell? ⟨w.heap.size + 1, 2, none⟩ = some (.string ⟨#[]⟩) := br2.cell 2
  have ft : ∀ k, w2.frozen? ⟨w.heap.size + 1 + 1, k, none⟩ = false := bt2.frozen
  have fr : ∀ k, w2.frozen? ⟨w.heap.size + 1, k, none⟩ = false := br2.frozen
  clear bc2 br2 bt2
  have HT := Lib.hid ht
  clear ht
  obtain ⟨k, hk⟩ : ∃ k, k = Lib.indexByte [91, 93, 59, 58, 44, 45] s[i] := ⟨_, rfl⟩
  have hk0 : 0 ≤ k := by rw [hk]; exact (sign_index _).1 hsg
  have HI : Hid (∀ W, Calls Tryz.prog 153 #[.string ⟨#[91, 93, 59, 58, 44, 45]⟩, .int .u8 s[i].toNat] W fun e w' => e = .returned (.int .i64 k) ∧ W = w') := fun W => by
    refine (Tryz.strings_IndexByte _ _ W).mono fun e w' ⟨h1, h2⟩ => ⟨?_, h2.symm⟩
    rw [h1, hk]; simp
  clear hk
  go_wp2_with (go_at_call 153; refine (HI.out _).mono ?_; rintro e w' ⟨rfl, rfl⟩)
  refine bodyPost_ret (v := .tuple #[.agg #[.int .i64 3, .int .i64 i, .string (Utf8.encode s[i].toNat)], .int .i64 0]) (by simp [results, Tryz.results92, go_sem, r0, r1, r2]) rfl ⟨by rw [encode_at s i h0 hsg], ?_, ?_⟩
  · refine Blk.far' ?_ (Blk.far' ?_ (Blk.far' ?_ (Blk.set' (by rfl) (Blk.far' ?_ g2.out)))) <;> first | (simp; done) | (simp; omega)
  · have := only_of_below hb3 (some g); (repeat' (first | (with_reducible assumption) | (with_reducible exact World.grownBy.refl _ _) | (with_reducible refine only_drewN ?_ _) | (with_reducible refine only_alloc ?_ _) | (with_reducible refine only_setCell ?_ ?_ _) | (with_reducible refine only_drew ?_) | (exact .inl rfl) | (refine .inr ?_; simp; done) | (refine .inr ?_; simp; omega) | (refine .inr ?_; omega)))
set_option maxHeartbeats 1000000 in
theorem token_none (g : Nat) (s : ByteArray) (i : Nat) (w : World) (hs : s.size ≤ 4000) (h0 : i < s.size) (hb : Blk w g 152 #[.string s, .int .i64 i]) (hl : isLN s[i].toNat = false) (hd : isDN s[i].toNat = false) (ht : isTwo (s.data.toList.drop i) = false) (hsg : isSign s[i] = false) :
    Calls Tryz.prog 92 #[.pointer (some ⟨g, 0, none⟩)] w fun e w' => e = .returned (.tuple #[.agg #[.int .i64 3, .int .i64 i, .string ⟨#[]⟩], .int .i64 1]) ∧ w.grownBy w' (some g) := by
  have HB := Lib.hid hb
  have c0 : w.cell? ⟨g, 0, none⟩ = some (.string s) := hb.cell 0
  have c1 : w.cell? ⟨g, 1, none⟩ = some (.int .i64 i) := hb.cell 1
  have hgl := hb.lt
  have hss := UInt8.toNat_lt s[i]
  clear hb
  go_enter Tryz.func92, Tryz.ntmps92
  go_wp2_with (first
    | (go_at_call 144; refine (sign_any g s i _ hs h0 (by have := HB.out; (repeat' (first | (with_reducible assumption) | (with_reducible refine Blk.drewN ?_ _) | (with_reducible refine Blk.alloc ?_ _) | (with_reducible refine Blk.drew ?_) | (with_reducible refine Blk.far' ?_ ?_; (first | (simp; done) | (simp; omega) | omega)) | (with_reducible apply Blk.set'; rotate_left) | rfl)))).mono ?_; rintro e w' ⟨rfl, q, rfl⟩)
    | (go_at_call 145; refine (letter_any _ (by assumption) _).mono ?_; rintro e w' ⟨rfl, rfl⟩)
    | (go_at_call 148; refine (digit_any _ (by assumption) _).mono ?_; rintro e w' ⟨rfl, rfl⟩)
    | (go_at_call 150; refine (pairs_any _).mono ?_; rintro e w1 ⟨v, rfl, hv, hb1⟩))
  have g1 : Blk w1 g 152 #[.string s, .int .i64 i] := Blk.below (by have := HB.out; (repeat' (first | (with_reducible assumption) | (with_reducible refine Blk.drewN ?_ _) | (with_reducible refine Blk.alloc ?_ _) | (with_reducible refine Blk.drew ?_) | (with_reducible refine Blk.far' ?_ ?_; (first | (simp; done) | (simp; omega) | omega)) | (with_reducible apply Blk.set'; rotate_left) | rfl))) hb1 (by simp; omega)
  have bc : Blk w1 w.heap.size _ _ := Blk.below ((((Blk.new' _ _ rfl).alloc _).alloc _).drewN _) hb1 (by simp; omega)
  have br : Blk w1 (w.heap.size + 1) _ _ := Blk.below (((Blk.new' _ _ (by simp)).alloc _).drewN _) hb1 (by simp)
  have bt : Blk w1 (w.heap.size + 1 + 1) _ _ := Blk.below ((Blk.new' _ _ (by simp)).drewN _) hb1 (by simp)
  have hb0 : Below w.heap.size w w1 := bstep (by (repeat' (first | (with_reducible exact Below.refl _ _) | (with_reducible assumption) | (with_reducible refine below_drewN ?_ _) | (with_reducible refine Below.alloc ?_ ?_ _) | (with_reducible refine Below.setCell ?_ ?_ _) | (with_reducible refine Below.drew ?_) | go_size))) hb1
  clear hb1
  have HV := Lib.hid hv
  have hn0 := bc.lt
  clear hv
  refine (two_any g w.heap.size s i w1 hs (by omega) hn0 (bc.cell 0) g1 v HV.out).mono ?_
  rintro e w2 ⟨rfl, hb2⟩
  rw [ht]
  have g2 := Lib.hid (g1.below hb2 g1.lt)
  have bc2 := bc.below hb2 bc.lt
  have br2 := br.below hb2 br.lt
  have bt2 := bt.below hb2 bt.lt
  have hs1 : w2.heap.size > w.heap.size + 1 + 1 := bt2.lt
  have hb3 : Below w.heap.size w w2 := bstep hb0 hb2
  clear g1 bc br bt hb2 hb0 hn0 c0 c1 HV
  have c0 : w2.cell? ⟨g, 0, none⟩ = some (.string s) := g2.out.cell 0
  have c1 : w2.cell? ⟨g, 1, none⟩ = some (.int .i64 i) := g2.out.cell 1
  have f1 : w2.frozen? ⟨g, 1, none⟩ = false := g2.out.frozen 1
  have k0 : w2.cell? ⟨w.heap.size, 0, none⟩ = some (.pointer (some ⟨g, 0, none⟩)) := bc2.cell 0
  have t0 : w2.cell? ⟨w.heap.size + 1 + 1, 0, none⟩ = some (.int .i64 3) := bt2.cell 0
  have t1 : w2.cell? ⟨w.heap.size + 1 + 1, 1, none⟩ = some (.int .i64 i) := bt2.cell 1
  have t2 : w2.cell? ⟨w.heap.size + 1 + 1, 2, none⟩ = some (.string ⟨#[]⟩) := bt2.cell 2
  have r0 : w2.cell? ⟨w.heap.size + 1, 0, none⟩ = some (.int .i64 0) := br2.cell 0
  have r1 : w2.cell? ⟨w.heap.size + 1, 1, none⟩ = some (.int .i64 0) := br2.cell 1
  have r2 : w2.cell? ⟨w.heap.size + 1, 2, none⟩ = some (.string ⟨#[]⟩) := br2.cell 2
  have ft : ∀ k, w2.frozen? ⟨w.heap.size + 1 + 1, k, none⟩ = false := bt2.frozen
  have fr : ∀ k, w2.frozen? ⟨w.heap.size + 1, k, none⟩ = false := br2.frozen
  clear bc2 br2 bt2
  have HT := Lib.hid ht
  clear ht
  obtain ⟨k, hk⟩ : ∃ k, k = Lib.indexByte [91, 93, 59, 58, 44, 45] s[i] := ⟨_, rfl⟩
  have hk0 : ¬ 0 ≤ k := by rw [hk]; intro h; rw [(sign_index _).2 h] at hsg; cases hsg
  have HI : Hid (∀ W, Calls Tryz.prog 153 #[.string ⟨#[91, 93, 59, 58, 44, 45]⟩, .int .u8 s[i].toNat] W fun e w' => e = .returned (.int .i64 k) ∧ W = w') := fun W => by
    refine (Tryz.strings_IndexByte _ _ W).mono fun e w' ⟨h1, h2⟩ => ⟨?_, h2.symm⟩
    rw [h1, hk]; simp
  clear hk
  go_wp2_with (go_at_call 153; refine (HI.out _).mono ?_; rintro e w' ⟨rfl, rfl⟩)
  refine bodyPost_ret (v := .tuple #[.agg #[.int .i64 3, .int .i64 i, .string ⟨#[]⟩], .int .i64 1]) (by simp [results, Tryz.results92, go_sem, r0, r1, r2]) rfl ⟨rfl, ?_⟩
  have := only_of_below hb3 (some g); (repeat' (first | (with_reducible assumption) | (with_reducible exact World.grownBy.refl _ _) | (with_reducible refine only_drewN ?_ _) | (with_reducible refine only_alloc ?_ _) | (with_reducible refine only_setCell ?_ ?_ _) | (with_reducible refine only_drew ?_) | (exact .inl rfl) | (refine .inr ?_; simp; done) | (refine .inr ?_; simp; omega) | (refine .inr ?_; omega)))

/-- The token that begins here, or what is wrong: as the document says. -/
theorem token_any (g : Nat) (s : ByteArray) (i : Nat) (w : World) (hs : s.size ≤ 4000) (h0 : i < s.size) (hb : Blk w g 152 #[.string s, .int .i64 i]) :
    Calls Tryz.prog 92 #[.pointer (some ⟨g, 0, none⟩)] w fun e w' => ∃ k x, e = .returned (.tuple #[.agg #[.int .i64 k, .int .i64 i, .string x], .int .i64 (tokBad (tokenAt (s.data.toList.drop i)).1 (tokenAt (s.data.toList.drop i)).2 s[i])]) ∧ w.grownBy w' (some g) ∧
      (tokBad (tokenAt (s.data.toList.drop i)).1 (tokenAt (s.data.toList.drop i)).2 s[i] = 0 → k = (tokenAt (s.data.toList.drop i)).1 ∧ x = s.extract i (i + (tokenAt (s.data.toList.drop i)).2) ∧ Blk w' g 152 #[.string s, .int .i64 ↑(i + (tokenAt (s.data.toList.drop i)).2)]) := by
  have hd := data_drop s i h0
  cases hl : isLN s[i].toNat with
  | true =>
    refine (token_letter g s i w hs h0 hb hl).mono ?_
    rintro e w' ⟨n, er, rfl, hn, he, hbl, hg⟩
    have ht : tokenAt (s.data.toList.drop i) = (1, n) := by
      rw [hn, hd, tokenAt, if_pos (show isL s[i] = true from hl), List.takeWhile_cons, if_pos (by simp [hl])]
      simp [Nat.add_comm]; rfl
    rw [ht]
    have hb' : tokBad 1 n s[i] = er := by rw [he]; simp [tokBad]
    rw [hb']
    exact ⟨1, _, rfl, hg, fun _ => ⟨rfl, rfl, hbl⟩⟩
  | false =>
    cases hdg : isDN s[i].toNat with
    | true =>
      refine (token_digit g s i w hs h0 hb hl hdg).mono ?_
      rintro e w' ⟨n, er, rfl, hn, he, hbl, hg⟩
      have ht : tokenAt (s.data.toList.drop i) = (2, n) := by
        rw [hn, hd, tokenAt, if_neg (show ¬ isL s[i] = true by unfold isL; simp [hl]), if_pos (show isD s[i] = true from hdg), List.takeWhile_cons, if_pos (by simp [hdg])]
        simp [Nat.add_comm]; rfl
      rw [ht]
      have hb' : tokBad 2 n s[i] = er := by rw [he]; simp [tokBad]
      rw [hb']
      exact ⟨2, _, rfl, hg, fun _ => ⟨rfl, rfl, hbl⟩⟩
    | false =>
      have nl : ¬ isL s[i] = true := by unfold isL; simp [hl]
      have nd : ¬ isD s[i] = true := by unfold isD; simp [hdg]
      cases ht2 : isTwo (s.data.toList.drop i) with
      | true =>
        have h2 : i + 2 ≤ s.size := by
          rw [hd] at ht2
          cases hr : s.data.toList.drop (i + 1) with
          | nil => rw [hr] at ht2; simp [isTwo] at ht2
          | cons a r =>
            have := congrArg List.length hr
            simp at this; omega
        refine (token_two g s i w hs h0 hb hl hdg ht2 h2).mono ?_
        rintro e w' ⟨rfl, hbl, hg⟩
        have ht : tokenAt (s.data.toList.drop i) = (3, 2) := by
          rw [hd] at ht2 ⊢
          rw [tokenAt, if_neg nl, if_neg nd, if_pos ht2]
        rw [ht]
        exact ⟨3, _, rfl, hg, fun _ => ⟨rfl, rfl, hbl⟩⟩
      | false =>
        cases hsg : isSign s[i] with
        | true =>
          refine (token_sign g s i w hs h0 hb hl hdg ht2 hsg).mono ?_
          rintro e w' ⟨rfl, hbl, hg⟩
          have ht : tokenAt (s.data.toList.drop i) = (3, 1) := by
            rw [hd] at ht2 ⊢
            rw [tokenAt, if_neg nl, if_neg nd, if_neg (by simp [ht2]), if_pos hsg]
          rw [ht]
          exact ⟨3, _, rfl, hg, fun _ => ⟨rfl, rfl, hbl⟩⟩
        | false =>
          refine (token_none g s i w hs h0 hb hl hdg ht2 hsg).mono ?_
          rintro e w' ⟨rfl, hg⟩
          have ht : tokenAt (s.data.toList.drop i) = (0, 0) := by
            rw [hd] at ht2 ⊢
            rw [tokenAt, if_neg nl, if_neg nd, if_neg (by simp [ht2]), if_neg (by simp [hsg])]
          rw [ht]
          exact ⟨3, _, rfl, hg, fun h => by simp [tokBad] at h⟩
end Go.Proofs.YtogdmcebojiojaaGreatDoor

/- The walk of Scan. -/
namespace Go.Proofs.YtogdmcebojiojaaGreatDoor
open Go.RowKit
set_option linter.unusedVariables false

theorem row_tok : RowInfo Tryz.prog 76 154 3 32 := RowInfo.mk' Tryz.underlying76 (z := .agg #[.int .i64 0, .int .i64 0, .string ⟨#[]⟩]) (by kernel_rfl) rfl

theorem scan_big (s : ByteArray) (w : World) (hs : 4000 < s.size) : Calls Tryz.prog 41 #[.string s] w fun e w' => e = .returned (.tuple #[.slice none 0 0, .int .i64 0, .int .i64 2]) ∧ w = w' := by
  go_enter Tryz.func41, Tryz.ntmps41
  go_wp2_with fail
  go_ret3
  exact ⟨rfl, rfl⟩

theorem own_beside {α : Type} [Rep α] {w w' : World} {lo base g : Nat} {E : TypeId} {v : Value} {xs : List α} (h : Own w lo base E v xs) (hg : w.grownBy w' (some g)) (hlt : g < lo) : Own w' lo base E v xs :=
  h.kept hg.size fun b hb hb' => hg.block b hb' fun e => by injection e with e; omega
theorem fresh_nil {α : Type} [Rep α] (w : World) (B : Nat) : Fresh w B (.slice none 0 0) ([] : List α) :=
  ⟨[_], rfl, none, 0, rfl, by simp, by simp, by simp, fun _ => rfl, fun h => absurd h (by simp)⟩
theorem extract_bs (s : ByteArray) (i n : Nat) : s.extract i (i + n) = bs ((s.data.toList.drop i).take n) := by
  apply ByteArray.ext
  rw [ByteArray.data_extract]
  apply Array.ext'
  simp only [Array.toList_extract, List.extract_eq_take_drop, bs]
  congr 1; omega

theorem skipN_zero : ∀ (l : List UInt8) (note : Bool), skipN (l.drop (skipN l note)) false = 0 := by
  intro l note
  cases h : l.drop (skipN l note) with
  | nil => rfl
  | cons c r =>
    obtain ⟨h1, h2⟩ := skipN_next l note c r h
    rw [skipN, if_neg (by simpa using h1), if_neg (by simp [h2])]

set_option maxHeartbeats 1000000 in
theorem scan_small (s : ByteArray) (w : World) (hs : s.size ≤ 4000) : Calls Tryz.prog 41 #[.string s] w fun e w' =>
    ∃ v, e = .returned (.tuple #[v, .int .i64 (scanR s.data.toList 0 false [] 0).2.1, .int .i64 (scanR s.data.toList 0 false [] 0).2.2]) ∧ Fresh w' w.heap.size v (scanR s.data.toList 0 false [] 0).1 ∧ Below w.heap.size w w' := by
  obtain ⟨R, hR⟩ : ∃ R, R = scanR s.data.toList 0 false [] 0 := ⟨_, rfl⟩
  rw [← hR]
  have HR := Lib.hid hR
  clear hR
  go_enter Tryz.func41, Tryz.ntmps41
  go_wp2_with (go_at_call 91; refine (skip_any w.heap.size s 0 _ hs (by omega) (Blk.new' _ _ rfl)).mono ?_; rintro e w1 ⟨rfl, hb1, hg1⟩)
  have hh : 0 + skipN (s.data.toList.drop 0) false ≤ s.size := by have := skipN_le (s.data.toList.drop 0) false; simpa using this
  obtain ⟨i0, hi0⟩ : ∃ i0, i0 = 0 + skipN (s.data.toList.drop 0) false := ⟨_, rfl⟩
  rw [← hi0] at hb1 hh
  have HB1 := Lib.hid hb1
  have hr0 : Hid (scanR (s.data.toList.drop i0) i0 false [] 0 = R ∧ skipN (s.data.toList.drop i0) false = 0) := by
    show _ ∧ _
    rw [HR.out, scanR_blanks s.data.toList 0 false []]
    simp only [List.drop_zero, Nat.zero_add] at hi0
    rw [hi0, Nat.zero_add]
    exact ⟨rfl, skipN_zero _ _⟩
  have hw1 : Below w.heap.size w w1 := below_of_only (only_trans (only_of_below (by (repeat' (first | (with_reducible exact Below.refl _ _) | (with_reducible assumption) | (with_reducible refine below_drewN ?_ _) | (with_reducible refine Below.alloc ?_ ?_ _) | (with_reducible refine Below.setCell ?_ ?_ _) | (with_reducible refine Below.drew ?_) | go_size))) (some w.heap.size)) hg1) (Nat.le_refl _) (Nat.le_refl _)
  have hsz1 : w.heap.size + 1 ≤ w1.heap.size := hb1.lt
  clear hi0 hb1 hg1
  go_loopg [6] s.size (fun n v wr => ∃ (i : Nat) (xs : List Tok), i ≤ s.size ∧ s.size - i ≤ n ∧ xs.length ≤ i ∧ Hid (Blk wr w.heap.size 152 #[.string s, .int .i64 i]) ∧ Hid (Own wr (w.heap.size + 1) (w.heap.size + 1) 154 v xs) ∧
    Hid (scanR (s.data.toList.drop i) i false xs 0 = R ∧ skipN (s.data.toList.drop i) false = 0) ∧ Below w.heap.size w wr ∧ w.heap.size + 1 ≤ wr.heap.size)
  case atStart => exact ⟨i0, [], hh, by omega, Nat.zero_le _, HB1.out, Own.nil _ _ (Nat.le_refl _), hr0, hw1, hsz1⟩
  case round =>
    obtain ⟨i, xs, hi, hm, hxs, HB, HO, HS, hw, hsz⟩ := hrel
    clear hr0 HB1 hw1 hsz1 hh
    have c1 : wr.cell? ⟨w.heap.size, 1, none⟩ = some (.int .i64 i) := HB.out.cell 1
    by_cases hlt : i < s.size
    · have hlt' : (i : Int) < (s.size : Int) := by omega
      have hd := Lib.hid (data_drop s i hlt)
      have hnx := skipN_next (s.data.toList.drop i) false s[i] (s.data.toList.drop (i + 1)) (by rw [HS.out.2, List.drop_zero]; exact hd.out)
      have hstep : Hid (scanR (s.data.toList.drop i) i false xs 0 = if tokBad (tokenAt (s.data.toList.drop i)).1 (tokenAt (s.data.toList.drop i)).2 s[i] = 0 then scanR (s.data.toList.drop (i + 1)) (i + 1) false (xs ++ [⟨(tokenAt (s.data.toList.drop i)).1, i, bs ((s.data.toList.drop i).take (tokenAt (s.data.toList.drop i)).2)⟩]) ((tokenAt (s.data.toList.drop i)).2 - 1) else ([], i, tokBad (tokenAt (s.data.toList.drop i)).1 (tokenAt (s.data.toList.drop i)).2 s[i])) := by
        show _ = _
        rw [hd.out, scanR, if_neg (by simpa using hnx.1), if_neg (by simp [hnx.2])]
      have hle := tokenAt_le (s.data.toList.drop i)
      have hpos := tokenAt_pos (s.data.toList.drop i)
      have hkk := tokenAt_kind (s.data.toList.drop i)
      generalize hta : tokenAt (s.data.toList.drop i) = kn at hstep hle hpos hkk
      obtain ⟨kd, n⟩ := kn
      have hcall := token_any w.heap.size s i wr hs hlt HB.out
      rw [hta] at hcall
      simp only at hcall hstep hle hpos hkk
      generalize hbd : tokBad kd n s[i] = bd at hcall hstep
      have HC := Lib.hid hcall
      have HTA := Lib.hid hta
      have HBD := Lib.hid hbd
      clear hcall hta hbd hnx
      by_cases hb0 : bd = 0
      · subst hb0
        go_wp2_with (first
          | (go_at_call 92
             refine HC.out.mono ?_
             rintro e w2 ⟨k, x, rfl, hg2, hok⟩
             obtain ⟨rfl, rfl, hbl⟩ := hok rfl
             have hown2 := Lib.hid (own_beside HO.out hg2 (by omega))
             have HBL := Lib.hid hbl
             have HG2 := Lib.hid hg2
             have hsz2 := hg2.size
             clear hok hbl hg2)
          | (at_builtin
             refine wpList_append_one (α := Tok) rfl (.tmp 36) (.tmp 38) rfl row_tok rfl (hown2.out.alloc _) rfl (by simp) (y := ⟨kd, i, s.extract i (i + n)⟩) ⟨rfl, by unfold inI64; simp; omega, by unfold inI64; simp; omega, by rw [ByteArray.size_extract]; simp; omega⟩ (by simp only [Rep.bytes]; omega) (by omega) (by simp; omega) ?_
             rintro v' w3 hown3 hg3 hb3
             have HO3 := Lib.hid hown3
             have hbl3 : Blk w3 w.heap.size 152 #[.string s, .int .i64 ↑(i + n)] := Blk.below (HBL.out.alloc _) hb3 (by omega)
             have HBL3 := Lib.hid hbl3
             have HB3 := Lib.hid hb3
             clear hown3 hg3 hbl3 hb3))
        have hn1 : 1 ≤ n := hpos (by intro h; subst h; have := HBD.out; simp [tokBad] at this)
        have hln : i + n ≤ s.size := by simp at hle; omega
        refine (skip_any w.heap.size s (i + n) w3 hs hln HBL3.out).mono ?_
        rintro e w4 ⟨rfl, hb4, hg4⟩
        have hsk := skipN_le (s.data.toList.drop (i + n)) false
        have hsk0 := skipN_zero (s.data.toList.drop (i + n)) false
        rw [List.drop_drop] at hsk0
        obtain ⟨i2, hi2⟩ : ∃ i2, i2 = i + n + skipN (s.data.toList.drop (i + n)) false := ⟨_, rfl⟩
        rw [← hi2] at hb4 hsk0
        have hi2l : i2 ≤ s.size := by simp at hsk; omega
        have HI2 := Lib.hid hi2
        have hge : i + n ≤ i2 := by omega
        clear hi2 hsk
        have hO4 : Hid (Own w4 (w.heap.size + 1) (w.heap.size + 1) 154 v' (xs ++ [⟨kd, i, s.extract i (i + n)⟩])) := own_beside HO3.out hg4 (by omega)
        have hS4 : Hid (scanR (s.data.toList.drop i2) i2 false (xs ++ [⟨kd, i, s.extract i (i + n)⟩]) 0 = R ∧ skipN (s.data.toList.drop i2) false = 0) := by
          refine ⟨?_, hsk0⟩
          rw [← HS.out.1, hstep.out, if_pos (by first | exact HBD.out | trivial), ← extract_bs, scanR_skip (s.data.toList.drop (i + 1)) _ _ _ (n - 1) (by simp; omega), List.drop_drop,
              show i + 1 + (n - 1) = i + n from by omega, scanR_blanks (s.data.toList.drop (i + n)), List.drop_drop, ← HI2.out]
        have z3 := HB3.out.size
        have z4 := hg4.size
        simp only [World.size_alloc] at z3
        have hB4 : Below w.heap.size w w4 := by
          have b1 := hw.trans (below_of_only HG2.out (Nat.le_refl _) (by omega))
          have b2 : Below w.heap.size w w3 := (b1.alloc (by omega) _).trans (HB3.out.mono (by omega))
          exact b2.trans (below_of_only hg4 (Nat.le_refl _) (by omega))
        have hlen4 : (xs ++ [(⟨kd, i, s.extract i (i + n)⟩ : Tok)]).length ≤ i2 := by simp; omega
        have hsz4 : w.heap.size + 1 ≤ w4.heap.size := by omega
        have HBL4 := Lib.hid hb4
        clear hg4 hb4 HO3 HBL3 HB3 hsk0
        go_wp2_with fail
        go_roundg (s.size - i2)
        case measure => omega
        case rel => exact ⟨i2, _, hi2l, Nat.le_refl _, hlen4, HBL4, hO4, hS4, hB4, hsz4⟩
      · have hb0' : (bd != 0) = true := by simp [hb0]
        have H0 := Lib.hid hb0
        clear hb0
        go_wp2_with (go_at_call 92; refine (HC.out).mono ?_; rintro e w2 ⟨k, x, rfl, hg2, hok⟩)
        go_quiet (fail)
        go_wp2_with fail
        go_ret3
        have hfin := HS.out.1
        rw [hstep.out, if_neg H0.out] at hfin
        rw [← hfin]
        have hsz2 := hg2.size
        have hwx := hw.trans (below_of_only hg2 (Nat.le_refl _) (by omega))
        exact ⟨_, rfl, fresh_nil _ _, by (repeat' (first | (with_reducible exact Below.refl _ _) | (with_reducible assumption) | (with_reducible refine below_drewN ?_ _) | (with_reducible refine Below.alloc ?_ ?_ _) | (with_reducible refine Below.setCell ?_ ?_ _) | (with_reducible refine Below.drew ?_) | go_size))⟩
    · have hlt' : ¬ (i : Int) < (s.size : Int) := by omega
      go_wp2_with fail
      go_ret3
      have hfin := HS.out.1
      rw [List.drop_of_length_le (by simpa using hlt), scanR] at hfin
      rw [← hfin]
      exact ⟨_, rfl, HO.out.fresh.more (by omega), by (repeat' (first | (with_reducible exact Below.refl _ _) | (with_reducible assumption) | (with_reducible refine below_drewN ?_ _) | (with_reducible refine Below.alloc ?_ ?_ _) | (with_reducible refine Below.setCell ?_ ?_ _) | (with_reducible refine Below.drew ?_) | go_size))⟩
end Go.Proofs.YtogdmcebojiojaaGreatDoor

/- The walks of the document's TokenAt. -/
namespace Go.Proofs.YtogdmcebojiojaaGreatDoor
open Go.RowKit
set_option linter.unusedVariables false

end Go.Proofs.YtogdmcebojiojaaGreatDoor

/- The walk of one token: what is one, told by the program and by the document. -/
namespace Go.Proofs.YtogdmcebojiojaaGreatDoor
open Go.RowKit
set_option linter.unusedVariables false
theorem text_ne {a b : ByteArray} (h : a ≠ b) : (a.toList == b.toList) = false := by
  rw [beq_eq_false_iff_ne, ByteArray.toList_eq, ByteArray.toList_eq]
  exact fun e => h (by cases a; cases b; simp at e; rw [e])
theorem text_eq {a b : ByteArray} (h : a = b) : (a.toList == b.toList) = true := by subst h; simp

theorem scan_any (s : ByteArray) (w : World) : Calls Tryz.prog 41 #[.string s] w fun e w' =>
    ∃ v, e = .returned (.tuple #[v, .int .i64 (scanS s.data.toList).2.1, .int .i64 (scanS s.data.toList).2.2]) ∧ Fresh w' w.heap.size v (scanS s.data.toList).1 ∧ Below w.heap.size w w' := by
  unfold scanS
  by_cases hs : s.data.toList.length > 4000
  · rw [if_pos hs]
    refine (scan_big s w (by simpa using hs)).mono ?_
    rintro e w' ⟨rfl, rfl⟩
    exact ⟨_, rfl, fresh_nil _ _, Below.refl _ _⟩
  · rw [if_neg hs]
    exact scan_small s w (by simpa using hs)
set_option maxHeartbeats 1000000 in
theorem one_any (kind : Int) (s : ByteArray) (w : World) : Calls Tryz.prog 272 #[.int .i64 kind, .string s] w fun e w' => e = .returned (.bool (isTok kind s.data.toList)) ∧ Below w.heap.size w w' := by
  have hiff := one_iff kind s
  have hcall := scan_any s w
  generalize scanS s.data.toList = R at hiff hcall
  obtain ⟨ts, p, er⟩ := R
  simp only at hiff hcall
  by_cases he : er = 0
  · subst he
    by_cases h1 : ts.length = 1
    · obtain ⟨t, rfl⟩ : ∃ t, ts = [t] := List.length_eq_one_iff.1 h1
      have HI := Lib.hid hiff
      have HC := Lib.hid hcall
      clear hiff hcall h1
      by_cases hk : t.kind = kind
      · have hk' : (t.kind == kind) = true := by simp [hk]
        by_cases hx : t.text = s
        · have hr : isTok kind s.data.toList = true := HI.out.1 ⟨rfl, t, rfl, hk, hx⟩
          have hx' := text_eq hx
          rw [hr]
          clear hk hx hr
          go_enter Tryz.func272, Tryz.ntmps272
          go_wp2_with (go_at_call 41; refine HC.out.mono ?_; rintro e w1 ⟨v, rfl, hv, hb⟩; obtain ⟨A, c, rfl, _⟩ := rdV_list hv.rds; obtain ⟨b, o, rfl, _, c0, c1, c2, _⟩ := rdV_at_tok hv.rds (i := 0) (by simp); simp only [Nat.zero_mul, Nat.add_zero, List.getElem_cons_zero] at c0 c1 c2)
          go_ret
          exact ⟨rfl, by (repeat' (first | (with_reducible exact Below.refl _ _) | (with_reducible assumption) | (with_reducible refine below_drewN ?_ _) | (with_reducible refine Below.alloc ?_ ?_ _) | (with_reducible refine Below.setCell ?_ ?_ _) | (with_reducible refine Below.drew ?_) | go_size))⟩
        · have hr : isTok kind s.data.toList = false := by rw [← Bool.not_eq_true]; intro h; obtain ⟨_, t', h1, _, h3⟩ := HI.out.2 h; injection h1 with h1; subst h1; exact hx h3
          have hx' := text_ne hx
          rw [hr]
          clear hk hx hr
          go_enter Tryz.func272, Tryz.ntmps272
          go_wp2_with (go_at_call 41; refine HC.out.mono ?_; rintro e w1 ⟨v, rfl, hv, hb⟩; obtain ⟨A, c, rfl, _⟩ := rdV_list hv.rds; obtain ⟨b, o, rfl, _, c0, c1, c2, _⟩ := rdV_at_tok hv.rds (i := 0) (by simp); simp only [Nat.zero_mul, Nat.add_zero, List.getElem_cons_zero] at c0 c1 c2)
          go_ret
          exact ⟨rfl, by (repeat' (first | (with_reducible exact Below.refl _ _) | (with_reducible assumption) | (with_reducible refine below_drewN ?_ _) | (with_reducible refine Below.alloc ?_ ?_ _) | (with_reducible refine Below.setCell ?_ ?_ _) | (with_reducible refine Below.drew ?_) | go_size))⟩
      · have hr : isTok kind s.data.toList = false := by rw [← Bool.not_eq_true]; intro h; obtain ⟨_, t', h1, h2, _⟩ := HI.out.2 h; injection h1 with h1; subst h1; exact hk h2
        have hk' : (t.kind == kind) = false := by simpa using hk
        rw [hr]
        clear hk hr
        go_enter Tryz.func272, Tryz.ntmps272
        go_wp2_with (go_at_call 41; refine HC.out.mono ?_; rintro e w1 ⟨v, rfl, hv, hb⟩; obtain ⟨A, c, rfl, _⟩ := rdV_list hv.rds; obtain ⟨b, o, rfl, _, c0, c1, c2, _⟩ := rdV_at_tok hv.rds (i := 0) (by simp); simp only [Nat.zero_mul, Nat.add_zero, List.getElem_cons_zero] at c0 c1 c2)
        go_ret
        exact ⟨rfl, by (repeat' (first | (with_reducible exact Below.refl _ _) | (with_reducible assumption) | (with_reducible refine below_drewN ?_ _) | (with_reducible refine Below.alloc ?_ ?_ _) | (with_reducible refine Below.setCell ?_ ?_ _) | (with_reducible refine Below.drew ?_) | go_size))⟩
    · have hr : isTok kind s.data.toList = false := by rw [← Bool.not_eq_true]; intro h; obtain ⟨_, t', h2, _, _⟩ := hiff.2 h; exact h1 (by rw [h2]; rfl)
      have hl' : ((ts.length : Int) == 1) = false := by rw [beq_eq_false_iff_ne]; omega
      have HC := Lib.hid hcall
      clear hiff hcall h1
      rw [hr]
      clear hr
      go_enter Tryz.func272, Tryz.ntmps272
      go_wp2_with (go_at_call 41; refine HC.out.mono ?_; rintro e w1 ⟨v, rfl, hv, hb⟩; obtain ⟨A, c, rfl, _⟩ := rdV_list hv.rds)
      go_ret
      exact ⟨rfl, by (repeat' (first | (with_reducible exact Below.refl _ _) | (with_reducible assumption) | (with_reducible refine below_drewN ?_ _) | (with_reducible refine Below.alloc ?_ ?_ _) | (with_reducible refine Below.setCell ?_ ?_ _) | (with_reducible refine Below.drew ?_) | go_size))⟩
  · have hr : isTok kind s.data.toList = false := by rw [← Bool.not_eq_true]; intro h; exact he (hiff.2 h).1
    have he' : (er == 0) = false := by simpa using he
    have HC := Lib.hid hcall
    clear hiff hcall he
    rw [hr]
    clear hr
    go_enter Tryz.func272, Tryz.ntmps272
    go_wp2_with (go_at_call 41; refine HC.out.mono ?_; rintro e w1 ⟨v, rfl, hv, hb⟩; obtain ⟨A, c, rfl, _⟩ := rdV_list hv.rds)
    go_ret
    exact ⟨rfl, by (repeat' (first | (with_reducible exact Below.refl _ _) | (with_reducible assumption) | (with_reducible refine below_drewN ?_ _) | (with_reducible refine Below.alloc ?_ ?_ _) | (with_reducible refine Below.setCell ?_ ?_ _) | (with_reducible refine Below.drew ?_) | go_size))⟩
end Go.Proofs.YtogdmcebojiojaaGreatDoor

/- The walk of models: names, numbers that may stand there. -/
namespace Go.Proofs.YtogdmcebojiojaaGreatDoor
open Go.RowKit
set_option linter.unusedVariables false

theorem words_any (w : World) : Calls Tryz.prog 220 #[] w fun e w' => ∃ b, e = .returned (.slice (some ⟨b, 0, none⟩) 16 16) ∧ (∀ j x, wordsL[j]? = some x → w'.cell? ⟨b, j, none⟩ = some (.string x)) ∧ Below w.heap.size w w' := by
  go_enter Tryz.func220, Tryz.ntmps220
  go_wp2_with fail
  go_ret
  refine ⟨_, rfl, fun j x hx => ?_, by (repeat' (first | (with_reducible exact Below.refl _ _) | (with_reducible assumption) | (with_reducible refine below_drewN ?_ _) | (with_reducible refine Below.alloc ?_ ?_ _) | (with_reducible refine Below.setCell ?_ ?_ _) | (with_reducible refine Below.drew ?_) | go_size))⟩
  have hj : j < 16 := (List.getElem?_eq_some_iff.1 hx).1
  match j, hj, hx with
  | 0, _, hx => injection hx with hx; subst hx; simp; rfl
  | 1, _, hx => injection hx with hx; subst hx; simp; rfl
  | 2, _, hx => injection hx with hx; subst hx; simp; rfl
  | 3, _, hx => injection hx with hx; subst hx; simp; rfl
  | 4, _, hx => injection hx with hx; subst hx; simp; rfl
  | 5, _, hx => injection hx with hx; subst hx; simp; rfl
  | 6, _, hx => injection hx with hx; subst hx; simp; rfl
  | 7, _, hx => injection hx with hx; subst hx; simp; rfl
  | 8, _, hx => injection hx with hx; subst hx; simp; rfl
  | 9, _, hx => injection hx with hx; subst hx; simp; rfl
  | 10, _, hx => injection hx with hx; subst hx; simp; rfl
  | 11, _, hx => injection hx with hx; subst hx; simp; rfl
  | 12, _, hx => injection hx with hx; subst hx; simp; rfl
  | 13, _, hx => injection hx with hx; subst hx; simp; rfl
  | 14, _, hx => injection hx with hx; subst hx; simp; rfl
  | 15, _, hx => injection hx with hx; subst hx; simp; rfl

theorem nameT_any (s : ByteArray) (w : World) : Calls Tryz.prog 218 #[.string s] w fun e w' => e = .returned (.bool (isTok 1 s.data.toList)) ∧ Below w.heap.size w w' := by
  have H := Lib.hid (one_any 1 s w)
  go_enter Tryz.func218, Tryz.ntmps218
  go_wp2_with (go_at_call 272; refine (H.out).mono ?_; rintro e w1 ⟨rfl, hb⟩)
  go_ret
  exact ⟨rfl, hb⟩

theorem words_contains (s : ByteArray) : Lib.containsS (wordsL.take 16) s = wordsL.any (fun u => u.toList == s.toList) := by
  rw [show wordsL.take 16 = wordsL from rfl]
  rw [Bool.eq_iff_iff, Lib.containsS_iff, List.any_eq_true]
  constructor
  · intro h; exact ⟨s, h, by simp⟩
  · rintro ⟨u, hu, he⟩
    rw [beq_iff_eq] at he
    have e : u = s := Classical.byContradiction fun h => by have := text_ne h; simp [he] at this
    subst e; exact hu

theorem name_any (s : ByteArray) (w : World) : Calls Tryz.prog 161 #[.string s] w fun e w' => e = .returned (.bool (isNameS s)) ∧ Below w.heap.size w w' := by
  have H := Lib.hid (nameT_any s w)
  unfold isNameS
  cases hq : isTok 1 s.data.toList with
  | false =>
    rw [hq] at H
    clear hq
    go_enter Tryz.func161, Tryz.ntmps161
    go_wp2_with (go_at_call 218; refine (H.out).mono ?_; rintro e w1 ⟨rfl, hb⟩)
    go_ret
    exact ⟨rfl, hb⟩
  | true =>
    rw [hq] at H
    clear hq
    rw [← words_contains]
    go_enter Tryz.func161, Tryz.ntmps161
    go_wp2_with (first
      | (go_at_call 218; refine (H.out).mono ?_; rintro e w1 ⟨rfl, hb⟩)
      | (go_at_call 220; refine (words_any _).mono ?_; rintro e w2 ⟨b, rfl, hc, hb2⟩)
      | (go_at_call 219; refine (Tryz.slices_Contains_string b 0 16 16 wordsL s _ (by decide) (by decide) (by
          intro j hj
          rw [Nat.zero_add]
          refine hc j _ ?_
          rw [List.getD_eq_getElem?_getD, List.getElem?_eq_getElem hj]; rfl)).mono ?_; rintro e w3 ⟨rfl, rfl⟩))
    go_ret
    exact ⟨rfl, bstep hb hb2⟩

end Go.Proofs.YtogdmcebojiojaaGreatDoor

/- The walk of the document's ScanOf. -/
namespace Go.Proofs.YtogdmcebojiojaaGreatDoor
open Go.RowKit
set_option linter.unusedVariables false

end Go.Proofs.YtogdmcebojiojaaGreatDoor
