/- What the program's and the document's calls of literals answer, of stores. -/
import Derived.Test.YtajnbkhgnppckaaGreatDoorPLit1
namespace Go.Proofs.YtajnbkhgnppckaaGreatDoor
open Go.RowKit
set_option linter.unusedVariables false
set_option linter.unusedSimpArgs false
theorem zdx (v : Nat) (n : Int) (l : LitD) : Sat Tryz.prog zag [dI v, dI n, .iptr [.int .i64 l.var, .int .i64 l.op, .int .i64 l.n] 0] (dB (!decide ((v : Int) = l.var) || holdsL l n)) :=
 zax v n l fun ok => by
  rw [z9w]
  refine za (fun e => ?_) fun e => call1 (zse l n) ?_
  ·rw [e]; rfl
  ·rw [e]; rfl
theorem zex (s : List (List Int)) (l : LitD) : Sat Tryz.prog zVf [dS s, dL l] (dS (putL s l)) :=
 z5w s l fun ok => by
  rw [z4w]
  exact call1 (zhd (f := fun v n => !decide ((v : Int) = l.var) || holdsL l n) zow fun v hv n hn => zdx v n l) rfl
theorem zpb {α : Type} (p : α → Bool) {xs : List α} {k : Nat} (h : k < xs.length) : (xs.take (k + 1)).any p = ((xs.take k).any p || p xs[k]) := by
 rw [← List.take_append_getElem h, List.any_append]; simp
theorem all_not {α : Type} {p : α → Bool} {r : List α} : r.all p = !(r.any fun x => !p x) := by rw [List.all_eq_not_any_not]
theorem zfx {s : List (List Int)} {l : LitD} (h : 0 ≤ l.var ∧ l.var < s.length) (ho : inR l.op 1 4 = true) : Sat Tryz.prog zkg [dS s, dL l] (dI (toldL s l)) :=
 zWv s l fun ok => by
  have hs : okStore s := ok_list (ok1 ok)
  rw [zVv]
  obtain ⟨v, hv⟩ : ∃ v : Nat, l.var = v := ⟨l.var.toNat, by omega⟩
  have hvl : v < s.length := by omega
  have hr := zqe hs hvl
  have ht : toldL s l = toldR l s[v] := by rw [toldL, hv, Int.toNat_natCast, getD_at _ hvl]
  refine up (I := fun n k (a : Bool × Bool) => zme s l _ n a.1 a.2 k) 0 s[v].length rfl (Nat.zero_le _) (by omega) (fun k a => a = ((s[v].take k).any (holdsL l), (s[v].take k).any fun n => !holdsL l n)) (a := (false, false)) rfl fun n k a _ hk ha hn => ?_
  subst ha
  rw [zUv, hv, at_nat (t := .list .int) hvl]
  refine ⟨inb_nat hvl, ?_⟩
  by_cases h : k < s[v].length
  ·rw [sel_lt h, at_nat (t := .int) h]
   refine ⟨inb_nat hvl, inb_nat h, ?_⟩
   have := zte l s[v][k] ho
   refine call1 this (za (fun e => hn h (true, _) ?_) fun e => hn h (_, true) ?_)
   ·rw [zpb _ h, zpb _ h, e]; simp
   ·rw [zpb _ h, zpb _ h, e]; simp
  ·have hk' : k = s[v].length := by omega
   subst hk'
   rw [sel_end, List.take_length, ht]
   unfold toldR
   rw [all_not]
   cases s[v].any (holdsL l) <;> cases s[v].any (fun n => !holdsL l n) <;> rfl
end Go.Proofs.YtajnbkhgnppckaaGreatDoor
