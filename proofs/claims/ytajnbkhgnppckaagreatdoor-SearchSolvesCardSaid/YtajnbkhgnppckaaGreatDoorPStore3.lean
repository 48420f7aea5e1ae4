/- What the program's calls of stores answer, and what the document says of them. -/
import Derived.Test.YtajnbkhgnppckaaGreatDoorPStore2
namespace Go.Proofs.YtajnbkhgnppckaaGreatDoor
open Go.RowKit
set_option linter.unusedVariables false
set_option linter.unusedSimpArgs false
def readyE (m : MdlD) (ss : List (List (List Int))) : Int := if checkM m ≠ 0 then checkM m else firstE (fun _ s => storeE m s) 0 ss
theorem zOw {m : MdlD} {ss : List (List (List Int))} (h : checkM m ≠ 0) : readyE m ss = checkM m := if_pos h
theorem zcn {m : MdlD} {ss : List (List (List Int))} (h : ¬checkM m ≠ 0) : readyE m ss = firstE (fun _ s => storeE m s) 0 ss := if_neg h
theorem zdn {α : Type} {f : Nat → α → Int} {a : α} {i : Nat} : firstE f i [a] = f i a := by
 unfold firstE; split
 ·rename_i h; rw [h]; rfl
 ·rfl
theorem Right.lohi {m : MdlD} (h : Right m) : ∀ v ∈ m.vars, -50 ≤ v.lo ∧ v.hi ≤ 50 := fun v hv => by have := h.var v hv; omega
def orS (e : Int) (s : List (List Int)) : List (List Int) := if e = 0 then s else []
def orB (e : Int) (b : Bool) : Bool := if e = 0 then b else false
theorem getD_at {α : Type} {t : List α} {k : Nat} (d : α) (h : k < t.length) : t.getD k d = t[k] := by rw [List.getD_eq_getElem?_getD, List.getElem?_eq_getElem h]; rfl
theorem len0 {l : List Int} : decide ((l.length : Int) = 0) = decide (l.length = 0) := decide_eq_decide.2 (by omega)
theorem zPw (l : List Int) : Sat Tryz.prog zQf [.sl .int l] (dB (decide (l.length = 0))) :=
 zxs l fun ok => by rw [zws, len0]
theorem zv (s : List (List Int)) : Sat Tryz.prog zf [dS s] (dB (failS s)) :=
 zms s fun ok => by rw [zls]; exact call1 (z7v zfw fun x _ => zPw x) rfl
theorem zjb (s : List (List Int)) : Sat Tryz.prog zK [dS s] (dB (failS s)) :=
 zdv s fun ok => by
  rw [zcv]
  refine any0 (I := fun n v => zyh s _ n v) s (fun l => decide (l.length = 0)) (okLen (t := .list .int) (ok1 ok)) (X := dB true = dB (failS s)) (Y := dB false = dB (failS s)) anyB (fun n k h hX hn => ?_) fun n hY => ?_
  ·rw [zRm, sel_lt h, at_nat (t := .list .int) h, len0]
   exact ⟨inb_nat h, za hX hn⟩
  ·rw [zRm, sel_end]; exact hY
theorem zid {α : Type} [DecidableEq α] : ∀ (a b : List α), a.length = b.length → ((a.zip b).any fun x => !decide (x.1 = x.2)) = !decide (a = b)
 | [], [], _ => rfl
 | [], _ :: _, h => by simp at h
 | _ :: _, [], h => by simp at h
 | x :: a, y :: b, h => by
  rw [List.zip_cons_cons, List.any_cons, zid a b (by simpa using h)]
  by_cases h1 : x = y <;> by_cases h2 : a = b <;> simp [h1, h2]
theorem zSh (a b : List Int) : Sat Tryz.prog ztc [.sl .int a, .sl .int b] (dB (decide (a = b))) :=
 znu a b fun ok => by
  have hl : a.length ≤ 9223372036854775807 := okLen (t := .int) (ok1 ok)
  rw [zmu]
  refine za (fun e => ?_) fun e => ?_
  ·rw [decide_eq_false (p := a = b) fun h => by subst h; simp at e]
  have e : a.length = b.length := by simp at e; omega
  have hz : (a.zip b).length = a.length := by rw [List.length_zip]; omega
  refine any0 (I := fun n v => z3g a b _ n v) (a.zip b) (fun x => !decide (x.1 = x.2)) (by omega) (X := dB false = dB (decide (a = b))) (Y := dB true = dB (decide (a = b))) (by rw [zid a b e]; cases decide (a = b) <;> rfl) (fun n k h hX hn => ?_) fun n hY => ?_
  ·have hk : k < a.length := by omega
   rw [List.getElem_zip] at hX hn
   rw [zqm, sel_lt hk, at_nat (t := .int) hk, at_nat (t := .int) (show k < b.length by omega)]
   exact ⟨inb_nat hk, inb_nat (by omega), za hX hn⟩
  ·rw [hz, zqm, sel_end]; exact hY
theorem zen (a b : List (List Int)) : Sat Tryz.prog zzc [dS a, dS b] (dB (decide (a = b))) :=
 zTv a b fun ok => by
  have hl : a.length ≤ 9223372036854775807 := okLen (t := .list .int) (ok1 ok)
  rw [zSv]
  refine za (fun e => ?_) fun e => ?_
  ·rw [decide_eq_false (p := a = b) fun h => by subst h; simp at e]
  have e : a.length = b.length := by simp at e; omega
  have hz : (a.zip b).length = a.length := by rw [List.length_zip]; omega
  refine any0 (I := fun n v => zMh a b _ n v) (a.zip b) (fun x => !decide (x.1 = x.2)) (by omega) (X := dB false = dB (decide (a = b))) (Y := dB true = dB (decide (a = b))) (by rw [zid a b e]; cases decide (a = b) <;> rfl) (fun n k h hX hn => ?_) fun n hY => ?_
  ·have hk : k < a.length := by omega
   rw [List.getElem_zip] at hX hn
   rw [zVm, sel_lt hk, at_nat (t := .list .int) hk, at_nat (t := .list .int) (show k < b.length by omega)]
   exact ⟨inb_nat hk, inb_nat (by omega), call1 (zSh _ _) (za hX hn)⟩
  ·rw [hz, zVm, sel_end]; exact hY
end Go.Proofs.YtajnbkhgnppckaaGreatDoor
