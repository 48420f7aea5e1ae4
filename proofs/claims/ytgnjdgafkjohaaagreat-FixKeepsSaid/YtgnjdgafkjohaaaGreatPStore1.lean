/- What the program's stores and the document's answer: both are told by the same plain functions. -/
import Derived.Test.YtgnjdgafkjohaaaGreatWStore
import Derived.Test.YtgnjdgafkjohaaaGreatME
namespace Go.Proofs.YtgnjdgafkjohaaaGreat
open Go.RowKit
set_option linter.unusedVariables false

/-! ### What a store is -/
def upL (lo : Int) : Nat → List Int
  | 0 => []
  | n + 1 => upL lo n ++ [lo + n]
def hasI (l : List Int) (n : Int) : Bool := l.any fun k => decide (n = k)
def keepS (f : Nat → Int → Bool) (s : List (List Int)) : List (List Int) := s.mapIdx fun v l => l.filter (f v)
def outV (v : VarD) (n : Int) : Bool := decide (n < v.lo) || decide (v.hi < n)
def outB (m : MdlD) (s : List (List Int)) : Bool := (s.zip m.vars).any fun x => x.1.any (outV x.2)
def disL (l : List Int) : Bool := (l.zip l.tail).any fun x => decide (x.2 ≤ x.1)
def storeE (m : MdlD) (s : List (List Int)) : Int :=
  if s.length ≠ m.vars.length then 1 else if outB m s = true then 3 else if s.any disL = true then 4 else 0
def failS (s : List (List Int)) : Bool := s.any fun l => decide (l.length = 0)
def okStore (s : List (List Int)) : Prop := okL 24 (okL 8 inI64) s


theorem store_len {s : List (List Int)} (h : okStore s) : s.length ≤ 5864062014805 := by have := h.1; omega
theorem store_row {s : List (List Int)} (h : okStore s) {k : Nat} (hk : k < s.length) : s[k].length ≤ 17592186044416 := by have := (h.2 _ (List.getElem_mem hk)).1; omega

/-! ### What is kept -/
theorem store_Keep_ok {s : List (List Int)} {g : FuncId} {rs : Option (List Ty)} {cap : List D} {f : Nat → Int → Bool} (he : Ent Tryz.prog g)
    (hf : ∀ (v : Nat) (h : v < s.length), ∀ n ∈ s[v], Sat Tryz.prog g (dI v :: dI n :: cap) (dB (f v n))) : Sat Tryz.prog f_store_Keep [dS s, .clo g rs cap] (dS (keepS f s)) :=
  Sat.clo (pre := [_]) (store_Keep_sat s g cap fun ok => by
    have hs : okStore s := ok_list (ok1 ok)
    have hsl := store_len hs
    rw [store_Keep_eq]
    refine up (I := fun n v a => store_Keep_I0 s g cap _ n v a) 0 s.length rfl (Nat.zero_le _) (by omega) (fun k a => a = (s.take k).mapIdx fun v l => l.filter (f v)) rfl fun n k a _ hk ha hn => ?_
    subst ha
    rw [store_Keep_I0_eq]
    by_cases h : k < s.length
    · rw [sel_lt h]
      have hr := store_row hs h
      refine ⟨inb_nat h, ?_⟩
      refine up (I := fun n v a => store_Keep_I2 s g cap _ _ (k : Int) n v _ a) 0 s[k].length rfl (Nat.zero_le _) (by omega) (fun j a => a = (s[k].take j).filter (f k)) rfl fun n2 j a _ hj hi hn2 => ?_
      subst hi
      rw [store_Keep_I2_eq, at_nat (t := .list .int) h]
      by_cases hj' : j < s[k].length
      · rw [sel_lt hj', at_nat (t := .int) hj']
        refine ⟨inb_nat hj', he, call1 (hf k h _ (List.getElem_mem hj')) (sel_intro (fun e => ⟨room_of (t := .int) ?_, hn2 hj' _ ?_⟩) fun e => hn2 hj' _ ?_)⟩
        · have := List.length_filter_le (f k) (s[k].take j)
          rw [List.length_take] at this
          show (_ + 1) * 8 ≤ _
          omega
        · rw [filter_take _ hj', if_pos e]
        · rw [filter_take _ hj', if_neg (by rw [e]; exact Bool.false_ne_true)]
      · have hj2 : j = s[k].length := by omega
        subst hj2
        rw [sel_end, List.take_length]
        refine ⟨room_of (t := .list .int) ?_, hn h _ (idx_take _ h).symm⟩
        rw [List.length_mapIdx, List.length_take]
        show (_ + 1) * 24 ≤ _
        omega
    · have hk' : k = s.length := by omega
      subst hk'
      rw [sel_end, List.take_length]; rfl)
theorem cordonref_HasInt_ok (l : List Int) (n : Int) : Sat Tryz.prog f_cordonref_HasInt [.sl .int l, dI n] (dB (hasI l n)) :=
  cordonref_HasInt_sat l n fun ok => by
    rw [cordonref_HasInt_eq]
    refine any0 (I := fun n0 v => cordonref_HasInt_I0 l n _ n0 v) l (fun k => decide (n = k)) (okLen (t := .int) (ok1 ok)) (X := dB true = dB (hasI l n)) (Y := dB false = dB (hasI l n)) anyB (fun i k h h1 h2 => ?_) fun i h => ?_
    · rw [cordonref_HasInt_I0_eq, sel_lt h, at_nat (t := .int) h, show decide (l[k] = n) = decide (n = l[k]) from decide_eq_decide.2 eq_comm]
      exact ⟨inb_nat h, sel_intro h1 h2⟩
    · rw [cordonref_HasInt_I0_eq, sel_end]; exact h
end Go.Proofs.YtgnjdgafkjohaaaGreat
