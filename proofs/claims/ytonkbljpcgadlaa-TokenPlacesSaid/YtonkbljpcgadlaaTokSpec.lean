/- What tokens are, in plain Lean: no program in sight. -/
import Derived.Test.YtonkbljpcgadlaaLib
namespace Go.Proofs.Ytonkbljpcgadlaa
set_option linter.unusedVariables false

def isLN (n : Nat) : Bool := decide (97 ≤ n) && decide (n ≤ 122)
def isDN (n : Nat) : Bool := decide (48 ≤ n) && decide (n ≤ 57)
def isL (c : UInt8) : Bool := isLN c.toNat
def isD (c : UInt8) : Bool := isDN c.toNat
def isW (c : UInt8) : Bool := isL c || isD c

/-- Is it one of the two-sign signs? -/
def isTwo : List UInt8 → Bool
  | a :: b :: _ => (a == 46 && b == 46) || (a == 60 && b == 61) || (a == 62 && b == 61) || (a == 61 && b == 61) || (a == 33 && b == 61)
  | _ => false
def isSign (c : UInt8) : Bool := c == 91 || c == 93 || c == 59 || c == 58 || c == 44 || c == 45

/-- Kind and length of the token that begins here; (0, 0): none. -/
def tokenAt : List UInt8 → Nat × Nat
  | [] => (0, 0)
  | c :: r =>
    if isL c then (1, 1 + (r.takeWhile isW).length)
    else if isD c then (2, 1 + (r.takeWhile isD).length)
    else if isTwo (c :: r) then (3, 2)
    else if isSign c then (3, 1)
    else (0, 0)

def blank (c : UInt8) : Bool := c == 32 || c == 9 || c == 10
def bs (l : List UInt8) : ByteArray := ⟨l.toArray⟩

/-- What is wrong with a token: 0: nothing. -/
def tokBad (k n : Nat) (c : UInt8) : Int :=
  if k = 0 then 1 else if k = 1 ∧ n > 12 ∨ k = 2 ∧ n > 4 then 2 else if k = 2 ∧ n > 1 ∧ c = 48 then 1 else 0

/-- The scan, byte by byte: 'skip': so many bytes of the token at hand are still to be passed; 'note': in a remark. -/
def scanR : List UInt8 → Nat → Bool → List Tok → Nat → List Tok × Int × Int
  | [], _, _, out, _ => (out, 0, 0)
  | _ :: r, i, note, out, k + 1 => scanR r (i + 1) note out k
  | c :: r, i, note, out, 0 =>
    if note || c == 37 then scanR r (i + 1) (c != 10) out 0
    else if blank c then scanR r (i + 1) false out 0
    else
      let kn := tokenAt (c :: r)
      if tokBad kn.1 kn.2 c = 0 then scanR r (i + 1) false (out ++ [⟨kn.1, i, bs ((c :: r).take kn.2)⟩]) (kn.2 - 1)
      else ([], i, tokBad kn.1 kn.2 c)

/-- Scan. -/
def scanS (l : List UInt8) : List Tok × Int × Int := if l.length > 4000 then ([], 0, 2) else scanR l 0 false [] 0

theorem scanR_skip : ∀ (l : List UInt8) (i : Nat) (note : Bool) (out : List Tok) (k : Nat), k ≤ l.length → scanR l i note out k = scanR (l.drop k) (i + k) note out 0
  | l, i, note, out, 0, _ => by simp
  | [], i, note, out, k + 1, h => by simp at h
  | c :: r, i, note, out, k + 1, h => by
    rw [scanR, scanR_skip r (i + 1) note out k (by simpa using h), List.drop_succ_cons]
    congr 1; omega

theorem tokenAt_le : ∀ (l : List UInt8), (tokenAt l).2 ≤ l.length
  | [] => by simp [tokenAt]
  | c :: r => by
    have h1 : (r.takeWhile isW).length ≤ r.length := (List.takeWhile_sublist _).length_le
    have h2 : (r.takeWhile isD).length ≤ r.length := (List.takeWhile_sublist _).length_le
    simp only [tokenAt]
    split
    · simp; omega
    · split
      · simp; omega
      · split
        · rename_i h
          cases r with
          | nil => simp [isTwo] at h
          | cons d r => simp
        · split <;> simp
theorem tokenAt_pos (l : List UInt8) (h : (tokenAt l).1 ≠ 0) : 1 ≤ (tokenAt l).2 := by
  cases l with
  | nil => simp [tokenAt] at h
  | cons c r =>
    revert h
    simp only [tokenAt]
    split
    · simp
    · split
      · simp
      · split
        · simp
        · split <;> simp
theorem tokenAt_kind (l : List UInt8) : (tokenAt l).1 ≤ 3 := by
  cases l with
  | nil => simp [tokenAt]
  | cons c r =>
    simp only [tokenAt]
    split
    · simp
    · split
      · simp
      · split
        · simp
        · split <;> simp

/-- How far blanks and remarks go. -/
def skipN : List UInt8 → Bool → Nat
  | [], _ => 0
  | c :: r, true => if c == 10 then 1 + skipN r false else 1 + skipN r true
  | c :: r, false => if c == 37 then 1 + skipN r true else if blank c then 1 + skipN r false else 0

theorem skipN_le : ∀ (l : List UInt8) (note : Bool), skipN l note ≤ l.length
  | [], _ => by simp [skipN]
  | c :: r, true => by
    have h1 := skipN_le r false; have h2 := skipN_le r true
    unfold skipN; split <;> simp <;> omega
  | c :: r, false => by
    have h1 := skipN_le r false; have h2 := skipN_le r true
    unfold skipN; split
    · simp; omega
    · split <;> simp; omega

theorem scanR_blanks : ∀ (l : List UInt8) (i : Nat) (note : Bool) (out : List Tok), scanR l i note out 0 = scanR (l.drop (skipN l note)) (i + skipN l note) false out 0
  | [], i, note, out => by simp [skipN, scanR]
  | c :: r, i, true, out => by
    rw [scanR, if_pos (by simp), skipN]
    by_cases h : c = 10
    · subst h
      rw [scanR_blanks r (i + 1) _ out, if_pos (by simp)]
      simp only [bne_self_eq_false, Nat.add_comm 1, List.drop_succ_cons]
      congr 1; omega
    · have hb : (c != 10) = true := by simpa using h
      rw [if_neg (by simpa using h), hb, scanR_blanks r (i + 1) true out]
      simp only [Nat.add_comm 1, List.drop_succ_cons]
      congr 1; omega
  | c :: r, i, false, out => by
    by_cases h : c = 37
    · subst h
      rw [scanR, if_pos (by simp), skipN, if_pos (by simp), scanR_blanks r (i + 1) _ out]
      have : ((37 : UInt8) != 10) = true := by decide
      simp only [this, Nat.add_comm 1, List.drop_succ_cons]
      congr 1; omega
    · by_cases hb : blank c = true
      · rw [scanR, if_neg (by simpa using h), if_pos hb, skipN, if_neg (by simpa using h), if_pos hb, scanR_blanks r (i + 1) false out]
        simp only [Nat.add_comm 1, List.drop_succ_cons]
        congr 1; omega
      · have : skipN (c :: r) false = 0 := by rw [skipN, if_neg (by simpa using h), if_neg hb]
        rw [this]; simp
/-- Behind the blanks nothing is a blank. -/
theorem skipN_next : ∀ (l : List UInt8) (note : Bool) (c : UInt8) (r : List UInt8), l.drop (skipN l note) = c :: r → c ≠ 37 ∧ blank c = false
  | [], note, c, r, h => by simp [skipN] at h
  | a :: l, true, c, r, h => by
    unfold skipN at h
    split at h
    · rw [Nat.add_comm, List.drop_succ_cons] at h; exact skipN_next l false c r h
    · rw [Nat.add_comm, List.drop_succ_cons] at h; exact skipN_next l true c r h
  | a :: l, false, c, r, h => by
    unfold skipN at h
    split at h
    · rw [Nat.add_comm, List.drop_succ_cons] at h; exact skipN_next l true c r h
    · split at h
      · rw [Nat.add_comm, List.drop_succ_cons] at h; exact skipN_next l false c r h
      · rename_i h1 h2
        simp at h
        obtain ⟨rfl, rfl⟩ := h
        exact ⟨by simpa using h1, by simpa using h2⟩

/-- One token of a text, and no more. -/
def isTok (kind : Int) (l : List UInt8) : Bool :=
  match l with
  | [] => false
  | c :: r => decide (l.length ≤ 4000) && decide (((tokenAt (c :: r)).1 : Int) = kind) && decide ((tokenAt (c :: r)).2 = l.length) && decide (tokBad (tokenAt (c :: r)).1 (tokenAt (c :: r)).2 c = 0)

def tokOk (t : Tok) : Bool := isTok t.kind t.text.data.toList
/-- How long tokens are, joined, and one more. -/
def joinLen (l : List Tok) : Nat := (l.map fun t => 1 + t.text.size).sum
def joinL (l : List Tok) : List UInt8 := List.intercalate [32] (l.map fun t => t.text.data.toList)
def joinS (l : List Tok) : ByteArray × Int :=
  if l.all tokOk then (if joinLen l > 4001 then (bs [], 2) else (bs (joinL l), 0)) else (bs [], 1)
end Go.Proofs.Ytonkbljpcgadlaa
