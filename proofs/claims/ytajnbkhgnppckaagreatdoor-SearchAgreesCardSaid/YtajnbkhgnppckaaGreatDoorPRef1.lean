/- What the document says of clauses: the same as the program does. -/
import Derived.Test.YtajnbkhgnppckaaGreatDoorPClause2
import Derived.Test.YtajnbkhgnppckaaGreatDoorPModel1
namespace Go.Proofs.YtajnbkhgnppckaaGreatDoor
open Go.RowKit
set_option linter.unusedVariables false
set_option linter.unusedSimpArgs false
def liveV (s : List (List Int)) (c : List LitD) : List Int := (c.filter fun l => decide (0 ≤ toldL s l)).map fun l => l.var
theorem zxk {s : List (List Int)} {l : LitD} {ls : List LitD} (h : toldL s l < 0) : liveV s (l :: ls) = liveV s ls := by
 rw [liveV, List.filter_cons_of_neg (by rw [decide_eq_true_iff]; omega)]; rfl
theorem zyk {s : List (List Int)} {l : LitD} {ls : List LitD} (h : ¬toldL s l < 0) : liveV s (l :: ls) = l.var :: liveV s ls := by
 rw [liveV, List.filter_cons_of_pos (by rw [decide_eq_true_iff]; omega)]; rfl
theorem zph {s : List (List Int)} {c : List LitD} {v : Int} (hv : 0 ≤ v) : ∀ ls : List LitD, putC s c ls v = if (liveV s ls).all (fun u => decide (u = v)) = true then keepC s c v else s
 | [] => by rw [putC, if_neg (by omega)]; rfl
 | l :: ls => by
  rw [putC]
  by_cases h : toldL s l < 0
  ·rw [if_pos h, zxk h, zph hv ls]
  ·rw [if_neg h, zyk h, List.all_cons]
   by_cases e : l.var = v
   ·rw [if_neg (fun x => x.2 e.symm), e, zph hv ls, decide_eq_true rfl, Bool.true_and]
   ·rw [if_pos ⟨hv, fun x => e x.symm⟩, decide_eq_false e, Bool.false_and, if_neg (by decide)]
theorem zqh {s : List (List Int)} {c : List LitD} : ∀ ls : List LitD, (∀ l ∈ ls, 0 ≤ l.var) → putC s c ls (-1) = match liveV s ls with | [] => noneS s | v :: vs => if vs.all (fun u => decide (u = v)) = true then keepC s c v else s
 | [], _ => by rw [putC, if_pos (by decide)]; rfl
 | l :: ls, hl => by
  rw [putC]
  by_cases h : toldL s l < 0
  ·rw [if_pos h, zxk h, zqh ls fun l hl' => hl l (List.mem_cons_of_mem _ hl')]
  ·rw [if_neg h, zyk h, if_neg (by omega), zph (hl l (List.mem_cons_self ..)) ls]
theorem zXs {f g : Nat → Int → Bool} {s : List (List Int)} : keepS g (keepS f s) = keepS (fun v n => f v n && g v n) s := by
 rw [keepS, keepS, keepS, List.mapIdx_mapIdx]
 congr 1; funext v l
 show List.filter (g v) (List.filter (f v) l) = _
 rw [List.filter_filter]
 congr 1; funext n; exact Bool.and_comm _ _
end Go.Proofs.YtajnbkhgnppckaaGreatDoor
