/- What the program's stores and the document's answer: both are told by the same plain functions. -/
import Derived.Test.YtajnbkhgnppckaaGreatDoorWStore
import Derived.Test.YtajnbkhgnppckaaGreatDoorME
namespace Go.Proofs.YtajnbkhgnppckaaGreatDoor
open Go.RowKit
set_option linter.unusedVariables false
def upL (lo : Int) : Nat → List Int
 | 0 => []
 | n + 1 => upL lo n ++ [lo + n]
theorem zbc (lo : Int) : ∀ n, (upL lo n).length = n
 | 0 => rfl
 | n + 1 => by rw [upL, List.length_append, zbc lo n]; rfl
def fullV (v : VarD) : List Int := upL v.lo (v.hi + 1 - v.lo).toNat
def fullS (m : MdlD) : List (List Int) := m.vars.map fullV
def hasI (l : List Int) (n : Int) : Bool := l.any fun k => decide (n = k)
def keepS (f : Nat → Int → Bool) (s : List (List Int)) : List (List Int) := s.mapIdx fun v l => l.filter (f v)
def outV (v : VarD) (n : Int) : Bool := decide (n < v.lo) || decide (v.hi < n)
def outB (m : MdlD) (s : List (List Int)) : Bool := (s.zip m.vars).any fun x => x.1.any (outV x.2)
def disL (l : List Int) : Bool := (l.zip l.tail).any fun x => decide (x.2 ≤ x.1)
def storeE (m : MdlD) (s : List (List Int)) : Int :=
 if s.length ≠ m.vars.length then 1 else if outB m s = true then 3 else if s.any disL = true then 4 else 0
def failS (s : List (List Int)) : Bool := s.any fun l => decide (l.length = 0)
def okStore (s : List (List Int)) : Prop := okL 24 (okL 8 inI64) s
theorem zRh {s : List (List Int)} (h : okStore s) : s.length ≤ 5864062014805 := by have := h.1; omega
theorem zqe {s : List (List Int)} (h : okStore s) {k : Nat} (hk : k < s.length) : s[k].length ≤ 17592186044416 := by have := (h.2 _ (List.getElem_mem hk)).1; omega
theorem zwj {lo : Int} {k : Int} (h : lo ≤ k) : upL lo (k + 1 - lo).toNat = upL lo (k - lo).toNat ++ [k] := by
 obtain ⟨d, rfl⟩ : ∃ d : Nat, k = lo + d := ⟨(k - lo).toNat, by omega⟩
 rw [show (lo + (d : Int) + 1 - lo).toNat = d + 1 by omega, show (lo + (d : Int) - lo).toNat = d by omega]; rfl
theorem zMw {m : MdlD} (hm : ∀ v ∈ m.vars, -50 ≤ v.lo ∧ v.hi ≤ 50) (hl : m.vars.length ≤ 6) : Sat Tryz.prog zZb [dM m] (dS (fullS m)) :=
 zks m fun ok => by
  rw [zjs]
  refine up (I := fun n v a => zrg m _ n v a) 0 m.vars.length rfl (Nat.zero_le _) (by omega) (fun k a => a = (m.vars.take k).map fullV) rfl fun n k a _ hk ha hn => ?_
  subst ha
  rw [zis]
  by_cases h : k < m.vars.length
  ·rw [sel_lt h, at_nat (t := .var) h]
   have hv := hm _ (List.getElem_mem h)
   refine ⟨inb_nat h, ?_⟩
   refine upto (I := fun n v a => zqg m _ _ (k : Int) n v _ a) (m.vars[k]).lo (m.vars[k]).hi (by omega) (by omega) (fun j a => a = upL (m.vars[k]).lo (j - (m.vars[k]).lo).toNat ∧ j ≤ max (m.vars[k]).lo ((m.vars[k]).hi + 1)) ⟨by rw [Int.sub_self]; rfl, by omega⟩ fun n2 j a hj hi hn2 => ?_
   obtain ⟨rfl, hjm⟩ := hi
   rw [zhs, at_nat (t := .var) h]
   refine za (fun e => ?_) fun e => ?_
   ·have e := of_decide_eq_true e
    refine ⟨room_of (t := .int) ?_, hn2 e _ ⟨(zwj hj).symm, by omega⟩⟩
    rw [zbc]
    show (_ + 1) * 8 ≤ _
    omega
   ·have e := of_decide_eq_false e
    have el : upL (m.vars[k]).lo (j - (m.vars[k]).lo).toNat = fullV m.vars[k] := by
     rw [fullV]
     by_cases hlh : (m.vars[k]).lo ≤ (m.vars[k]).hi + 1
     ·rw [show j = (m.vars[k]).hi + 1 by omega]
     ·rw [show j = (m.vars[k]).lo by omega, show ((m.vars[k]).lo - (m.vars[k]).lo).toNat = 0 by omega, show ((m.vars[k]).hi + 1 - (m.vars[k]).lo).toNat = 0 by omega]
    rw [el]
    refine ⟨room_of (t := .list .int) ?_, hn h _ (zLd fullV h).symm⟩
    rw [List.length_map, List.length_take]
    show (_ + 1) * 24 ≤ _
    omega
  ·have hk' : k = m.vars.length := by omega
   subst hk'
   rw [sel_end, List.take_length]; rfl
theorem z9m {m : MdlD} (hm : ∀ v ∈ m.vars, -50 ≤ v.lo ∧ v.hi ≤ 50) (hl : m.vars.length ≤ 6) : Sat Tryz.prog z1d [dM m] (dS (fullS m)) :=
 zsv m fun ok => by
  rw [zrv]
  refine up (I := fun n v a => zCh m _ n v a) 0 m.vars.length rfl (Nat.zero_le _) (by omega) (fun k a => a = (m.vars.take k).map fullV) rfl fun n k a _ hk ha hn => ?_
  subst ha
  rw [zqv]
  by_cases h : k < m.vars.length
  ·rw [sel_lt h, at_nat (t := .var) h]
   have hv := hm _ (List.getElem_mem h)
   refine ⟨inb_nat h, ?_⟩
   refine upto (I := fun n v a => zBh m _ _ (k : Int) n v _ a) (m.vars[k]).lo (m.vars[k]).hi (by omega) (by omega) (fun j a => a = upL (m.vars[k]).lo (j - (m.vars[k]).lo).toNat ∧ j ≤ max (m.vars[k]).lo ((m.vars[k]).hi + 1)) ⟨by rw [Int.sub_self]; rfl, by omega⟩ fun n2 j a hj hi hn2 => ?_
   obtain ⟨rfl, hjm⟩ := hi
   rw [zpv, at_nat (t := .var) h]
   refine ⟨inb_nat h, za (fun e => ?_) fun e => ?_⟩
   ·have e := of_decide_eq_true e
    refine ⟨room_of (t := .int) ?_, hn2 e _ ⟨(zwj hj).symm, by omega⟩⟩
    rw [zbc]
    show (_ + 1) * 8 ≤ _
    omega
   ·have e := of_decide_eq_false e
    have el : upL (m.vars[k]).lo (j - (m.vars[k]).lo).toNat = fullV m.vars[k] := by
     rw [fullV]
     by_cases hlh : (m.vars[k]).lo ≤ (m.vars[k]).hi + 1
     ·rw [show j = (m.vars[k]).hi + 1 by omega]
     ·rw [show j = (m.vars[k]).lo by omega, show ((m.vars[k]).lo - (m.vars[k]).lo).toNat = 0 by omega, show ((m.vars[k]).hi + 1 - (m.vars[k]).lo).toNat = 0 by omega]
    rw [el]
    refine ⟨room_of (t := .list .int) ?_, hn h _ (zLd fullV h).symm⟩
    rw [List.length_map, List.length_take]
    show (_ + 1) * 24 ≤ _
    omega
  ·have hk' : k = m.vars.length := by omega
   subst hk'
   rw [sel_end, List.take_length]; rfl
theorem zhd {s : List (List Int)} {g : FuncId} {rs : Option (List Ty)} {cap : List D} {f : Nat → Int → Bool} (he : Ent Tryz.prog g)
  (hf : ∀ (v : Nat) (h : v < s.length), ∀ n ∈ s[v], Sat Tryz.prog g (dI v :: dI n :: cap) (dB (f v n))) : Sat Tryz.prog zG [dS s, .clo g rs cap] (dS (keepS f s)) :=
 Sat.clo (pre := [_]) (zqs s g cap fun ok => by
  have hs : okStore s := ok_list (ok1 ok)
  have hsl := zRh hs
  rw [zps]
  refine up (I := fun n v a => zsg s g cap _ n v a) 0 s.length rfl (Nat.zero_le _) (by omega) (fun k a => a = (s.take k).mapIdx fun v l => l.filter (f v)) rfl fun n k a _ hk ha hn => ?_
  subst ha
  rw [zos]
  by_cases h : k < s.length
  ·rw [sel_lt h]
   have hr := zqe hs h
   refine ⟨inb_nat h, ?_⟩
   refine up (I := fun n v a => zbe s g cap _ _ (k : Int) n v _ a) 0 s[k].length rfl (Nat.zero_le _) (by omega) (fun j a => a = (s[k].take j).filter (f k)) rfl fun n2 j a _ hj hi hn2 => ?_
   subst hi
   rw [zns, at_nat (t := .list .int) h]
   by_cases hj' : j < s[k].length
   ·rw [sel_lt hj', at_nat (t := .int) hj']
    refine ⟨inb_nat hj', he, call1 (hf k h _ (List.getElem_mem hj')) (za (fun e => ⟨room_of (t := .int) ?_, hn2 hj' _ ?_⟩) fun e => hn2 hj' _ ?_)⟩
    ·have := List.length_filter_le (f k) (s[k].take j)
     rw [List.length_take] at this
     show (_ + 1) * 8 ≤ _
     omega
    ·rw [z8 _ hj', if_pos e]
    ·rw [z8 _ hj', if_neg (by rw [e]; exact Bool.false_ne_true)]
   ·have hj2 : j = s[k].length := by omega
    subst hj2
    rw [sel_end, List.take_length]
    refine ⟨room_of (t := .list .int) ?_, hn h _ (zVc _ h).symm⟩
    rw [List.length_mapIdx, List.length_take]
    show (_ + 1) * 24 ≤ _
    omega
  ·have hk' : k = s.length := by omega
   subst hk'
   rw [sel_end, List.take_length]; rfl)
theorem zan (l : List Int) (n : Int) : Sat Tryz.prog z7d [.sl .int l, dI n] (dB (hasI l n)) :=
 zLv l n fun ok => by
  rw [zKv]
  refine any0 (I := fun n0 v => zJh l n _ n0 v) l (fun k => decide (n = k)) (okLen (t := .int) (ok1 ok)) (X := dB true = dB (hasI l n)) (Y := dB false = dB (hasI l n)) anyB (fun i k h h1 h2 => ?_) fun i h => ?_
  ·rw [zUm, sel_lt h, at_nat (t := .int) h, show decide (l[k] = n) = decide (n = l[k]) from decide_eq_decide.2 eq_comm]
   exact ⟨inb_nat h, za h1 h2⟩
  ·rw [zUm, sel_end]; exact h
end Go.Proofs.YtajnbkhgnppckaaGreatDoor
