/- What the program's calls of clauses answer. -/
import Derived.Test.YtajnbkhgnppckaaGreatDoorPLit4
import Derived.Test.YtajnbkhgnppckaaGreatDoorWClause
namespace Go.Proofs.YtajnbkhgnppckaaGreatDoor
open Go.RowKit
set_option linter.unusedVariables false
set_option linter.unusedSimpArgs false
theorem zBh (l : List Int) : SatH Tryz.prog zoc [.sl .int l] [] (.own 3000) [(3000, .row 3 .int l)] :=
 zEq l fun ok _ => by
  rw [zDq]
  intro b hb
  refine za (fun e => ?_) fun e => ⟨?_, ?_⟩
  ·rw [hb e]; exact ⟨rfl, rfl⟩
  ·refine room_of (t := .int) ?_
   have := (ok_list (t := .int) (ok1 ok)).1
   show (0 + l.length) * 8 ≤ _
   have h8 : l.length * 8 ≤ 140737488355328 := this
   omega
  ·exact ⟨rfl, rfl⟩
theorem zfd (s : List (List Int)) : Sat Tryz.prog zvb [dS s] (dS s) :=
 zeq s fun ok => by
  have hs : okStore s := ok_list (ok1 ok)
  have hsl := zVf hs
  rw [zdq]
  refine up (I := fun n v a => z8e s _ n v a) 0 s.length rfl (Nat.zero_le _) (by omega) (fun k a => a = s.take k) rfl fun n k a _ hk ha hn => ?_
  subst ha
  rw [zcq]
  by_cases h : k < s.length
  ·rw [sel_lt h, at_nat (t := .list .int) h]
   refine ⟨inb_nat h, _, zBh _, room_of (t := .list .int) ?_, hn h _ (List.take_append_getElem h)⟩
   rw [List.length_take]
   show (_ + 1) * 24 ≤ _
   omega
  ·have hk' : k = s.length := by omega
   subst hk'
   rw [sel_end, List.take_length]
def noneS (s : List (List Int)) : List (List Int) := List.replicate s.length []
theorem z0f (s : List (List Int)) : Sat Tryz.prog zG [dS s] (dS (noneS s)) :=
 zgq s fun ok => by
  have hs : okStore s := ok_list (ok1 ok)
  have hsl := zVf hs
  rw [zfq]
  refine ⟨rfl, by omega, room_of (t := .list .int) ?_, rfl⟩
  rw [Int.toNat_natCast]
  show _ * 24 ≤ _
  omega
def clauseE (nv : Nat) (c : List LitD) : Int := if 40 < c.length then 2 else firstE (fun _ l => litE nv l) 0 c
theorem zCh {nv : Nat} {c : List LitD} (h : clauseE nv c = 0) : c.length ≤ 40 ∧ ∀ l ∈ c, litE nv l = 0 := by
 unfold clauseE at h
 split at h
 ·exact absurd h (by decide)
 rename_i h1
 refine ⟨by omega, fun l hl => ?_⟩
 obtain ⟨i, hi, rfl⟩ := List.getElem_of_mem hl
 exact zWf h hi
def holdsC (c : List LitD) (vs : List Int) : Bool := c.any fun l => holdsL l (vs.getD l.var.toNat 0)
def atC (c : List LitD) (v : Int) (n : Int) : Bool := c.any fun l => if l.var = v then holdsL l n else false
theorem zCt (l : LitD) (v n : Int) : Sat Tryz.prog zMe [dL l, .iptr [dI v] 0, .iptr [dI n] 0] (dB (if l.var = v then holdsL l n else false)) :=
 ztt l v n fun ok => by
  rw [zst]
  refine za (fun e => ?_) fun e => ?_
  ·rw [if_pos (of_decide_eq_true e)]; exact call1 (zed l n) rfl
  ·rw [if_neg (of_decide_eq_false e)]
theorem zDt (n : Int) (c : List LitD) (v : Int) : Sat Tryz.prog zrc [dI n, .iptr [.sl .lit c] 0, .iptr [dI v] 0] (dB (atC c v n)) :=
 zrt n c v fun ok => by
  rw [zqt]
  exact call1 (zDk zqs fun l _ => zCt l v n) rfl
theorem zEt (w n v : Int) (c : List LitD) : Sat Tryz.prog zNe [dI w, dI n, .iptr [dI v] 0, .iptr [.clo zrc none [.iptr [.sl .lit c] 0, .iptr [dI v] 0]] 0] (dB (!decide (w = v) || atC c v n)) :=
 Sat.iclo (pre := [_, _, _]) (zvt w n v zrc [.iptr [.sl .lit c] 0, .iptr [dI v] 0] fun ok => by
  rw [zut]
  refine za (fun e => ?_) fun e => ⟨zps, call1 (zDt n c v) ?_⟩
  ·rw [e]; rfl
  ·rw [e]; rfl)
theorem zFt (l : LitD) (v n : Int) : Sat Tryz.prog z3e [dL l, .iptr [dI v] 0, .iptr [dI n] 0] (dB (if l.var = v then holdsL l n else false)) :=
 zBt l v n fun ok => by
  rw [zAt]
  refine za (fun e => ?_) fun e => ?_
  ·rw [if_pos (of_decide_eq_true e)]; exact call1 (zed l n) rfl
  ·rw [if_neg (of_decide_eq_false e)]
theorem zGt (v n : Int) (c : List LitD) : Sat Tryz.prog z2e [dI v, dI n, .iptr [.sl .lit c] 0] (dB (!atC c v n)) :=
 zzt v n c fun ok => by
  rw [zyt]
  exact call1 (zDk zCs fun l _ => zFt l v n) rfl
def denyC (s : List (List Int)) (c : List LitD) : List (List Int) := keepS (fun v n => !atC c v n) s
theorem zHt (s : List (List Int)) (c : List LitD) : Sat Tryz.prog z1e [dS s, .sl .lit c] (dS (denyC s c)) :=
 zxt s c fun ok => by
  rw [zwt]
  exact call1 (zbd (f := fun v n => !atC c v n) zAs fun v hv n hn => zGt v n c) rfl
def keepC (s : List (List Int)) (c : List LitD) (one : Int) : List (List Int) := keepS (fun v n => !decide ((v : Int) = one) || atC c one n) s
def putC (s : List (List Int)) (c : List LitD) : List LitD → Int → List (List Int)
 | [], one => if one < 0 then noneS s else keepC s c one
 | l :: ls, one => if toldL s l < 0 then putC s c ls one else if 0 ≤ one ∧ one ≠ l.var then s else putC s c ls l.var
def unitC (s : List (List Int)) (c : List LitD) : List (List Int) := if failS s = true then s else putC s c c (-1)
theorem zIt {s : List (List Int)} {c : List LitD} (hc : ∀ l ∈ c, 0 ≤ l.var ∧ l.var < s.length) : Sat Tryz.prog zZb [dS s, .sl .lit c] (dS (unitC s c)) :=
 zpt s c fun ok => by
  have hl : c.length ≤ 9223372036854775807 := okLen (t := .lit) (ok1 (okR ok))
  rw [zot]
  refine call1 (zt s) (za (fun e => ?_) fun e => ?_)
  ·rw [unitC, if_pos e]
   exact call1 (zfd s) rfl
  rw [unitC, if_neg (by rw [e]; decide)]
  refine up (I := fun n v a => zxc s c _ n v a) 0 c.length rfl (Nat.zero_le _) (by omega) (fun k a => putC s c (c.drop k) a = putC s c c (-1)) (by rw [List.drop_zero]) fun n k a _ hk ha hn => ?_
  rw [znt]
  by_cases h : k < c.length
  ·rw [sel_lt h, at_nat (t := .lit) h]
   rw [List.drop_eq_getElem_cons h, putC] at ha
   refine ⟨inb_nat h, call1 (zkt (hc _ (List.getElem_mem h))) (za (fun e => ?_) fun e => ?_)⟩
   ·rw [if_pos (of_decide_eq_true e)] at ha
    exact hn h _ ha
   rw [if_neg (of_decide_eq_false e)] at ha
   refine za (fun f => za (fun g => ?_) fun g => ?_) fun f => ?_
   ·rw [if_pos ⟨of_decide_eq_true f, by simpa using g⟩] at ha
    rw [← ha]
    exact call1 (zfd s) rfl
   ·rw [if_neg (fun x => x.2 (by simpa using g))] at ha
    exact hn h _ ha
   ·rw [if_neg (fun x => of_decide_eq_false f x.1)] at ha
    exact hn h _ ha
  ·have hk' : k = c.length := by omega
   subst hk'
   rw [List.drop_length, putC] at ha
   rw [sel_end, ← ha]
   refine za (fun e => ?_) fun e => ?_
   ·rw [if_pos (of_decide_eq_true e)]
    exact call1 (z0f s) rfl
   ·rw [if_neg (of_decide_eq_false e)]
    exact call1 (zbd (f := fun v n => !decide ((v : Int) = a) || atC c a n) zrs fun v hv n hn => zEt v n a c) rfl
end Go.Proofs.YtajnbkhgnppckaaGreatDoor
