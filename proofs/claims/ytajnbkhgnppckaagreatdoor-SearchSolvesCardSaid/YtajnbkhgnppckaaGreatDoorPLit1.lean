/- What the program's and the document's calls of literals answer. -/
import Derived.Test.YtajnbkhgnppckaaGreatDoorPStore5
import Derived.Test.YtajnbkhgnppckaaGreatDoorWLit
namespace Go.Proofs.YtajnbkhgnppckaaGreatDoor
open Go.RowKit
set_option linter.unusedVariables false
set_option linter.unusedSimpArgs false
def holdsL (l : LitD) (n : Int) : Bool := if l.op = 1 then decide (n ≤ l.n) else if l.op = 2 then decide (l.n ≤ n) else if l.op = 3 then decide (n = l.n) else !decide (n = l.n)
theorem zse (l : LitD) (n : Int) : Sat Tryz.prog z4b [dL l, dI n] (dB (holdsL l n)) :=
 zbu l n fun ok => by
  rw [zau]
  refine za (fun e1 => ?_) fun e1 => za (fun e2 => ?_) fun e2 => za (fun e3 => ?_) fun e3 => ?_ <;> simp at * <;> simp [holdsL, *]
theorem zte (l : LitD) (n : Int) (h : inR l.op 1 4 = true) : Sat Tryz.prog zBb [dL l, dI n] (dB (holdsL l n)) :=
 z7u l n fun ok => by
  rw [z6u]
  obtain ⟨h1, h2⟩ := zQb.1 h
  have h3 : l.op = 1 ∨ l.op = 2 ∨ l.op = 3 ∨ l.op = 4 := by omega
  rcases h3 with h | h | h | h <;> simp only [h, holdsL, Int.reduceEq, if_true, if_false, decide_true, decide_false, zbj, zcj] <;> (repeat' (refine za (fun _ => ?_) (fun _ => ?_))) <;> simp_all
theorem litE_1 {nv : Nat} {l : LitD} (h : noneB nv l.var = true) : litE nv l = 5 := if_pos h
theorem litE_2 {nv : Nat} {l : LitD} (h1 : ¬noneB nv l.var = true) (h : inR l.op 1 4 = false) : litE nv l = 7 := by rw [litE, if_neg h1, if_pos h]
theorem litE_3 {nv : Nat} {l : LitD} (h1 : ¬noneB nv l.var = true) (h2 : ¬inR l.op 1 4 = false) (h : farB l.n = true) : litE nv l = 3 := by rw [litE, if_neg h1, if_neg h2, if_pos h]
theorem litE_4 {nv : Nat} {l : LitD} (h1 : ¬noneB nv l.var = true) (h2 : ¬inR l.op 1 4 = false) (h : ¬farB l.n = true) : litE nv l = 0 := by rw [litE, if_neg h1, if_neg h2, if_neg h]
theorem zJ {nv : Nat} {l : LitD} : litE nv l = 0 ↔ (0 ≤ l.var ∧ l.var < nv) ∧ (1 ≤ l.op ∧ l.op ≤ 4) ∧ -1000 ≤ l.n ∧ l.n ≤ 1000 := by
 by_cases h1 : noneB nv l.var = true
 ·rw [litE_1 h1]
  simp [noneB, inR] at h1
  exact ⟨fun h => absurd h (by decide), fun h => by omega⟩
 by_cases h2 : inR l.op 1 4 = false
 ·rw [litE_2 h1 h2]
  rw [zQ] at h2
  exact ⟨fun h => absurd h (by decide), fun h => by omega⟩
 by_cases h3 : farB l.n = true
 ·rw [litE_3 h1 h2 h3]
  simp [farB, inR] at h3
  exact ⟨fun h => absurd h (by decide), fun h => by omega⟩
 ·rw [litE_4 h1 h2 h3]
  simp [noneB, farB, inR] at h1 h2 h3
  exact ⟨fun _ => by omega, fun _ => rfl⟩
def oppL (l : LitD) : LitD := if l.op = 1 then ⟨l.var, 2, l.n + 1⟩ else if l.op = 2 then ⟨l.var, 1, l.n - 1⟩ else if l.op = 3 then ⟨l.var, 4, l.n⟩ else ⟨l.var, 3, l.n⟩
theorem zbx (l : LitD) (h : -1000000 ≤ l.n ∧ l.n ≤ 1000000) : Sat Tryz.prog zJf [dL l] (toD .lit (oppL l)) :=
 z3w l fun ok => by
  rw [z2w, w64_eq (by omega) (by omega), w64_eq (by omega) (by omega)]
  refine za (fun e1 => ?_) fun e1 => za (fun e2 => ?_) fun e2 => za (fun e3 => ?_) fun e3 => ?_ <;> simp at e1
  ·simp only [oppL, e1, if_true]; rfl
  all_goals simp at e2
  ·simp only [oppL, e1, e2, if_true, if_false]; rfl
  all_goals simp at e3
  ·simp only [oppL, e1, e2, e3, if_true, if_false]; rfl
  ·simp only [oppL, e1, e2, e3, if_true, if_false]; rfl
def toldR (l : LitD) (r : List Int) : Int := if r.any (holdsL l) = false then -1 else if r.all (holdsL l) = true then 1 else 0
def toldL (s : List (List Int)) (l : LitD) : Int := toldR l (s.getD l.var.toNat [])
def putL (s : List (List Int)) (l : LitD) : List (List Int) := keepS (fun v n => !decide ((v : Int) = l.var) || holdsL l n) s
theorem zxj {α : Type} {p : α → Bool} {r : List α} : (r.filter p).length = 0 ↔ r.any p = false := by
 rw [List.length_eq_zero_iff, List.filter_eq_nil_iff, List.any_eq_false]
theorem znn {α : Type} {p : α → Bool} {r : List α} : (r.filter p).length = r.length ↔ r.all p = true := by
 rw [List.length_filter_eq_length_iff, List.all_eq_true]
theorem zcx {s : List (List Int)} {l : LitD} (h : 0 ≤ l.var ∧ l.var < s.length) : Sat Tryz.prog z4f [dS s, dL l] (dI (toldL s l)) :=
 z8w s l fun ok => by
  have hs : okStore s := ok_list (ok1 ok)
  rw [z7w]
  obtain ⟨v, hv⟩ : ∃ v : Nat, l.var = v := ⟨l.var.toNat, by omega⟩
  have hvl : v < s.length := by omega
  have hr := zqe hs hvl
  have ht : toldL s l = toldR l s[v] := by rw [toldL, hv, Int.toNat_natCast, getD_at _ hvl]
  refine ⟨by rw [hv]; exact inb_nat hvl, ?_⟩
  refine up (I := fun n v a => zre s l _ n a v) 0 s[v].length rfl (Nat.zero_le _) (by omega) (fun k a => a = (((s[v].take k).filter (holdsL l)).length : Int)) rfl fun n k a _ hk ha hn => ?_
  subst ha
  rw [z6w, hv, at_nat (t := .list .int) hvl]
  have hf := List.length_filter_le (holdsL l) (s[v].take k)
  rw [List.length_take] at hf
  by_cases h : k < s[v].length
  ·rw [sel_lt h, at_nat (t := .int) h]
   refine ⟨inb_nat h, ?_⟩
   refine call1 (zse l s[v][k]) (za (fun e => hn h _ ?_) fun e => hn h _ ?_)
   ·rw [z8 _ h, if_pos e, List.length_append, w64_eq (by omega) (by omega)]; rfl
   ·rw [z8 _ h, if_neg (by rw [e]; exact Bool.false_ne_true)]
  ·have hk' : k = s[v].length := by omega
   subst hk'
   rw [sel_end, List.take_length, ht]
   refine za (fun e => ?_) fun e => ⟨inb_nat hvl, za (fun f => ?_) fun f => ?_⟩
   ·have e := of_decide_eq_true e
    exact dI_of (if_pos (zxj.1 (by omega)))
   ·have e := of_decide_eq_false e
    have f := of_decide_eq_true f
    exact dI_of (by rw [toldR, if_neg (fun h => e (by have := zxj.2 h; omega)), if_pos (znn.1 (by omega))])
   ·have e := of_decide_eq_false e
    have f := of_decide_eq_false f
    exact dI_of (by rw [toldR, if_neg (fun h => e (by have := zxj.2 h; omega)), if_neg (fun h => f (by have := znn.2 h; omega))])
end Go.Proofs.YtajnbkhgnppckaaGreatDoor
