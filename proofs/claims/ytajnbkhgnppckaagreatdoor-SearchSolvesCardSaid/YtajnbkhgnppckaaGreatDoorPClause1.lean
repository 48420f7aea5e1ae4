/- What the program's calls of clauses answer. -/
import Derived.Test.YtajnbkhgnppckaaGreatDoorPLit4
import Derived.Test.YtajnbkhgnppckaaGreatDoorWClause
namespace Go.Proofs.YtajnbkhgnppckaaGreatDoor
open Go.RowKit
set_option linter.unusedVariables false
set_option linter.unusedSimpArgs false
theorem zyj (l : List Int) : SatH Tryz.prog z1c [.sl .int l] [] (.own 3000) [(3000, .row 3 .int l)] :=
 zWs l fun ok _ => by
  rw [zVs]
  intro b hb
  refine za (fun e => ?_) fun e => ⟨?_, ?_⟩
  ·rw [hb e]; exact ⟨rfl, rfl⟩
  ·refine room_of (t := .int) ?_
   have := (ok_list (t := .int) (ok1 ok)).1
   show (0 + l.length) * 8 ≤ _
   have h8 : l.length * 8 ≤ 140737488355328 := this
   omega
  ·exact ⟨rfl, rfl⟩
theorem zue (s : List (List Int)) : Sat Tryz.prog z2b [dS s] (dS s) :=
 zts s fun ok => by
  have hs : okStore s := ok_list (ok1 ok)
  have hsl := zRh hs
  rw [zss]
  refine up (I := fun n v a => zug s _ n v a) 0 s.length rfl (Nat.zero_le _) (by omega) (fun k a => a = s.take k) rfl fun n k a _ hk ha hn => ?_
  subst ha
  rw [zrs]
  by_cases h : k < s.length
  ·rw [sel_lt h, at_nat (t := .list .int) h]
   refine ⟨inb_nat h, _, zyj _, room_of (t := .list .int) ?_, hn h _ (List.take_append_getElem h)⟩
   rw [List.length_take]
   show (_ + 1) * 24 ≤ _
   omega
  ·have hk' : k = s.length := by omega
   subst hk'
   rw [sel_end, List.take_length]
def noneS (s : List (List Int)) : List (List Int) := List.replicate s.length []
theorem zWh (s : List (List Int)) : Sat Tryz.prog zW [dS s] (dS (noneS s)) :=
 zvs s fun ok => by
  have hs : okStore s := ok_list (ok1 ok)
  have hsl := zRh hs
  rw [zus]
  refine ⟨rfl, by omega, room_of (t := .list .int) ?_, rfl⟩
  rw [Int.toNat_natCast]
  show _ * 24 ≤ _
  omega
def clauseE (nv : Nat) (c : List LitD) : Int := if 40 < c.length then 2 else firstE (fun _ l => litE nv l) 0 c
theorem zld {nv : Nat} {c : List LitD} (h : clauseE nv c = 0) : c.length ≤ 40 ∧ ∀ l ∈ c, litE nv l = 0 := by
 unfold clauseE at h
 split at h
 ·exact absurd h (by decide)
 rename_i h1
 refine ⟨by omega, fun l hl => ?_⟩
 obtain ⟨i, hi, rfl⟩ := List.getElem_of_mem hl
 exact zEc h hi
def holdsC (c : List LitD) (vs : List Int) : Bool := c.any fun l => holdsL l (vs.getD l.var.toNat 0)
def atC (c : List LitD) (v : Int) (n : Int) : Bool := c.any fun l => if l.var = v then holdsL l n else false
theorem zwx (l : LitD) (v n : Int) : Sat Tryz.prog z5f [dL l, .iptr [dI v] 0, .iptr [dI n] 0] (dB (if l.var = v then holdsL l n else false)) :=
 znx l v n fun ok => by
  rw [zmx]
  refine za (fun e => ?_) fun e => ?_
  ·rw [if_pos (of_decide_eq_true e)]; exact call1 (zse l n) rfl
  ·rw [if_neg (of_decide_eq_false e)]
theorem zxx (n : Int) (c : List LitD) (v : Int) : Sat Tryz.prog z4c [dI n, .iptr [.sl .lit c] 0, .iptr [dI v] 0] (dB (atC c v n)) :=
 zlx n c v fun ok => by
  rw [zkx]
  exact call1 (zYm zlw fun l _ => zwx l v n) rfl
theorem zyx (w n v : Int) (c : List LitD) : Sat Tryz.prog z6f [dI w, dI n, .iptr [dI v] 0, .iptr [.clo z4c none [.iptr [.sl .lit c] 0, .iptr [dI v] 0]] 0] (dB (!decide (w = v) || atC c v n)) :=
 Sat.iclo (pre := [_, _, _]) (zpx w n v z4c [.iptr [.sl .lit c] 0, .iptr [dI v] 0] fun ok => by
  rw [zox]
  refine za (fun e => ?_) fun e => ⟨zkw, call1 (zxx n c v) ?_⟩
  ·rw [e]; rfl
  ·rw [e]; rfl)
theorem zzx (l : LitD) (v n : Int) : Sat Tryz.prog zpg [dL l, .iptr [dI v] 0, .iptr [dI n] 0] (dB (if l.var = v then holdsL l n else false)) :=
 zvx l v n fun ok => by
  rw [zux]
  refine za (fun e => ?_) fun e => ?_
  ·rw [if_pos (of_decide_eq_true e)]; exact call1 (zse l n) rfl
  ·rw [if_neg (of_decide_eq_false e)]
theorem zAx (v n : Int) (c : List LitD) : Sat Tryz.prog zog [dI v, dI n, .iptr [.sl .lit c] 0] (dB (!atC c v n)) :=
 ztx v n c fun ok => by
  rw [zsx]
  exact call1 (zYm zww fun l _ => zzx l v n) rfl
def denyC (s : List (List Int)) (c : List LitD) : List (List Int) := keepS (fun v n => !atC c v n) s
theorem zBx (s : List (List Int)) (c : List LitD) : Sat Tryz.prog zng [dS s, .sl .lit c] (dS (denyC s c)) :=
 zrx s c fun ok => by
  rw [zqx]
  exact call1 (zhd (f := fun v n => !atC c v n) zvw fun v hv n hn => zAx v n c) rfl
def keepC (s : List (List Int)) (c : List LitD) (one : Int) : List (List Int) := keepS (fun v n => !decide ((v : Int) = one) || atC c one n) s
def putC (s : List (List Int)) (c : List LitD) : List LitD → Int → List (List Int)
 | [], one => if one < 0 then noneS s else keepC s c one
 | l :: ls, one => if toldL s l < 0 then putC s c ls one else if 0 ≤ one ∧ one ≠ l.var then s else putC s c ls l.var
def unitC (s : List (List Int)) (c : List LitD) : List (List Int) := if failS s = true then s else putC s c c (-1)
theorem zCx {s : List (List Int)} {c : List LitD} (hc : ∀ l ∈ c, 0 ≤ l.var ∧ l.var < s.length) : Sat Tryz.prog zwc [dS s, .sl .lit c] (dS (unitC s c)) :=
 zjx s c fun ok => by
  have hl : c.length ≤ 9223372036854775807 := okLen (t := .lit) (ok1 (okR ok))
  rw [zix]
  refine call1 (zv s) (za (fun e => ?_) fun e => ?_)
  ·rw [unitC, if_pos e]
   exact call1 (zue s) rfl
  rw [unitC, if_neg (by rw [e]; decide)]
  refine up (I := fun n v a => zkd s c _ n v a) 0 c.length rfl (Nat.zero_le _) (by omega) (fun k a => putC s c (c.drop k) a = putC s c c (-1)) (by rw [List.drop_zero]) fun n k a _ hk ha hn => ?_
  rw [zhx]
  by_cases h : k < c.length
  ·rw [sel_lt h, at_nat (t := .lit) h]
   rw [List.drop_eq_getElem_cons h, putC] at ha
   refine ⟨inb_nat h, call1 (zcx (hc _ (List.getElem_mem h))) (za (fun e => ?_) fun e => ?_)⟩
   ·rw [if_pos (of_decide_eq_true e)] at ha
    exact hn h _ ha
   rw [if_neg (of_decide_eq_false e)] at ha
   refine za (fun f => za (fun g => ?_) fun g => ?_) fun f => ?_
   ·rw [if_pos ⟨of_decide_eq_true f, by simpa using g⟩] at ha
    rw [← ha]
    exact call1 (zue s) rfl
   ·rw [if_neg (fun x => x.2 (by simpa using g))] at ha
    exact hn h _ ha
   ·rw [if_neg (fun x => of_decide_eq_false f x.1)] at ha
    exact hn h _ ha
  ·have hk' : k = c.length := by omega
   subst hk'
   rw [List.drop_length, putC] at ha
   rw [sel_end, ← ha]
   refine za (fun e => ?_) fun e => ?_
   ·rw [if_pos (of_decide_eq_true e)]
    exact call1 (zWh s) rfl
   ·rw [if_neg (of_decide_eq_false e)]
    exact call1 (zhd (f := fun v n => !decide ((v : Int) = a) || atC c a n) zmw fun v hv n hn => zyx v n a c) rfl
end Go.Proofs.YtajnbkhgnppckaaGreatDoor
