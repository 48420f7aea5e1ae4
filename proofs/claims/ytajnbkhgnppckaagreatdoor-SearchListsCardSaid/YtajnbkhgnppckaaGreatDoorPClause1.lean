/- What the program's calls of clauses answer. -/
import Derived.Test.YtajnbkhgnppckaaGreatDoorPLit4
import Derived.Test.YtajnbkhgnppckaaGreatDoorWClause
namespace Go.Proofs.YtajnbkhgnppckaaGreatDoor
open Go.RowKit
set_option linter.unusedVariables false
set_option linter.unusedSimpArgs false
theorem z3h (l : List Int) : SatH Tryz.prog zuc [.sl .int l] [] (.own 3000) [(3000, .row 3 .int l)] :=
 zfr l fun ok _ => by
  rw [zer]
  intro b hb
  refine za (fun e => ?_) fun e => ⟨?_, ?_⟩
  ·rw [hb e]; exact ⟨rfl, rfl⟩
  ·refine room_of (t := .int) ?_
   have := (ok_list (t := .int) (ok1 ok)).1
   show (0 + l.length) * 8 ≤ _
   have h8 : l.length * 8 ≤ 140737488355328 := this
   omega
  ·exact ⟨rfl, rfl⟩
theorem ztd (s : List (List Int)) : Sat Tryz.prog zzb [dS s] (dS s) :=
 zPq s fun ok => by
  have hs : okStore s := ok_list (ok1 ok)
  have hsl := zkg hs
  rw [zOq]
  refine up (I := fun n v a => zlf s _ n v a) 0 s.length rfl (Nat.zero_le _) (by omega) (fun k a => a = s.take k) rfl fun n k a _ hk ha hn => ?_
  subst ha
  rw [zNq]
  by_cases h : k < s.length
  ·rw [sel_lt h, at_nat (t := .list .int) h]
   refine ⟨inb_nat h, _, z3h _, room_of (t := .list .int) ?_, hn h _ (List.take_append_getElem h)⟩
   rw [List.length_take]
   show (_ + 1) * 24 ≤ _
   omega
  ·have hk' : k = s.length := by omega
   subst hk'
   rw [sel_end, List.take_length]
def noneS (s : List (List Int)) : List (List Int) := List.replicate s.length []
theorem zpg (s : List (List Int)) : Sat Tryz.prog zI [dS s] (dS (noneS s)) :=
 zRq s fun ok => by
  have hs : okStore s := ok_list (ok1 ok)
  have hsl := zkg hs
  rw [zQq]
  refine ⟨rfl, by omega, room_of (t := .list .int) ?_, rfl⟩
  rw [Int.toNat_natCast]
  show _ * 24 ≤ _
  omega
def clauseE (nv : Nat) (c : List LitD) : Int := if 40 < c.length then 2 else firstE (fun _ l => litE nv l) 0 c
theorem z4h {nv : Nat} {c : List LitD} (h : clauseE nv c = 0) : c.length ≤ 40 ∧ ∀ l ∈ c, litE nv l = 0 := by
 unfold clauseE at h
 split at h
 ·exact absurd h (by decide)
 rename_i h1
 refine ⟨by omega, fun l hl => ?_⟩
 obtain ⟨i, hi, rfl⟩ := List.getElem_of_mem hl
 exact zlg h hi
def holdsC (c : List LitD) (vs : List Int) : Bool := c.any fun l => holdsL l (vs.getD l.var.toNat 0)
def atC (c : List LitD) (v : Int) (n : Int) : Bool := c.any fun l => if l.var = v then holdsL l n else false
theorem ztu (l : LitD) (v n : Int) : Sat Tryz.prog zZe [dL l, .iptr [dI v] 0, .iptr [dI n] 0] (dB (if l.var = v then holdsL l n else false)) :=
 zku l v n fun ok => by
  rw [zju]
  refine za (fun e => ?_) fun e => ?_
  ·rw [if_pos (of_decide_eq_true e)]; exact call1 (zsd l n) rfl
  ·rw [if_neg (of_decide_eq_false e)]
theorem zuu (n : Int) (c : List LitD) (v : Int) : Sat Tryz.prog zxc [dI n, .iptr [.sl .lit c] 0, .iptr [dI v] 0] (dB (atC c v n)) :=
 ziu n c v fun ok => by
  rw [zhu]
  exact call1 (z5k znt fun l _ => ztu l v n) rfl
theorem zvu (w n v : Int) (c : List LitD) : Sat Tryz.prog z0e [dI w, dI n, .iptr [dI v] 0, .iptr [.clo zxc none [.iptr [.sl .lit c] 0, .iptr [dI v] 0]] 0] (dB (!decide (w = v) || atC c v n)) :=
 Sat.iclo (pre := [_, _, _]) (zmu w n v zxc [.iptr [.sl .lit c] 0, .iptr [dI v] 0] fun ok => by
  rw [zlu]
  refine za (fun e => ?_) fun e => ⟨zmt, call1 (zuu n c v) ?_⟩
  ·rw [e]; rfl
  ·rw [e]; rfl)
theorem zwu (l : LitD) (v n : Int) : Sat Tryz.prog zgf [dL l, .iptr [dI v] 0, .iptr [dI n] 0] (dB (if l.var = v then holdsL l n else false)) :=
 zsu l v n fun ok => by
  rw [zru]
  refine za (fun e => ?_) fun e => ?_
  ·rw [if_pos (of_decide_eq_true e)]; exact call1 (zsd l n) rfl
  ·rw [if_neg (of_decide_eq_false e)]
theorem zxu (v n : Int) (c : List LitD) : Sat Tryz.prog zff [dI v, dI n, .iptr [.sl .lit c] 0] (dB (!atC c v n)) :=
 zqu v n c fun ok => by
  rw [zpu]
  exact call1 (z5k zyt fun l _ => zwu l v n) rfl
def denyC (s : List (List Int)) (c : List LitD) : List (List Int) := keepS (fun v n => !atC c v n) s
theorem zyu (s : List (List Int)) (c : List LitD) : Sat Tryz.prog zef [dS s, .sl .lit c] (dS (denyC s c)) :=
 zou s c fun ok => by
  rw [znu]
  exact call1 (zEc (f := fun v n => !atC c v n) zxt fun v hv n hn => zxu v n c) rfl
def keepC (s : List (List Int)) (c : List LitD) (one : Int) : List (List Int) := keepS (fun v n => !decide ((v : Int) = one) || atC c one n) s
def putC (s : List (List Int)) (c : List LitD) : List LitD → Int → List (List Int)
 | [], one => if one < 0 then noneS s else keepC s c one
 | l :: ls, one => if toldL s l < 0 then putC s c ls one else if 0 ≤ one ∧ one ≠ l.var then s else putC s c ls l.var
def unitC (s : List (List Int)) (c : List LitD) : List (List Int) := if failS s = true then s else putC s c c (-1)
theorem zzu {s : List (List Int)} {c : List LitD} (hc : ∀ l ∈ c, 0 ≤ l.var ∧ l.var < s.length) : Sat Tryz.prog z5b [dS s, .sl .lit c] (dS (unitC s c)) :=
 zgu s c fun ok => by
  have hl : c.length ≤ 9223372036854775807 := okLen (t := .lit) (ok1 (okR ok))
  rw [zfu]
  refine call1 (zq s) (za (fun e => ?_) fun e => ?_)
  ·rw [unitC, if_pos e]
   exact call1 (ztd s) rfl
  rw [unitC, if_neg (by rw [e]; decide)]
  refine up (I := fun n v a => zFc s c _ n v a) 0 c.length rfl (Nat.zero_le _) (by omega) (fun k a => putC s c (c.drop k) a = putC s c c (-1)) (by rw [List.drop_zero]) fun n k a _ hk ha hn => ?_
  rw [zeu]
  by_cases h : k < c.length
  ·rw [sel_lt h, at_nat (t := .lit) h]
   rw [List.drop_eq_getElem_cons h, putC] at ha
   refine ⟨inb_nat h, call1 (zbu (hc _ (List.getElem_mem h))) (za (fun e => ?_) fun e => ?_)⟩
   ·rw [if_pos (of_decide_eq_true e)] at ha
    exact hn h _ ha
   rw [if_neg (of_decide_eq_false e)] at ha
   refine za (fun f => za (fun g => ?_) fun g => ?_) fun f => ?_
   ·rw [if_pos ⟨of_decide_eq_true f, by simpa using g⟩] at ha
    rw [← ha]
    exact call1 (ztd s) rfl
   ·rw [if_neg (fun x => x.2 (by simpa using g))] at ha
    exact hn h _ ha
   ·rw [if_neg (fun x => of_decide_eq_false f x.1)] at ha
    exact hn h _ ha
  ·have hk' : k = c.length := by omega
   subst hk'
   rw [List.drop_length, putC] at ha
   rw [sel_end, ← ha]
   refine za (fun e => ?_) fun e => ?_
   ·rw [if_pos (of_decide_eq_true e)]
    exact call1 (zpg s) rfl
   ·rw [if_neg (of_decide_eq_false e)]
    exact call1 (zEc (f := fun v n => !decide ((v : Int) = a) || atC c a n) zot fun v hv n hn => zvu v n a c) rfl
end Go.Proofs.YtajnbkhgnppckaaGreatDoor
