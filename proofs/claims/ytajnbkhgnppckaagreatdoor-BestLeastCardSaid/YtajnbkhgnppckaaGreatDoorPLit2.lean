/- What the program's and the document's calls of literals answer, of stores. -/
import Derived.Test.YtajnbkhgnppckaaGreatDoorPLit1
namespace Go.Proofs.YtajnbkhgnppckaaGreatDoor
open Go.RowKit
set_option linter.unusedVariables false
set_option linter.unusedSimpArgs false
theorem z3s (v : Nat) (n : Int) (l : LitD) : Sat Tryz.prog zSe [dI v, dI n, .iptr [.int .i64 l.var, .int .i64 l.op, .int .i64 l.n] 0] (dB (!decide ((v : Int) = l.var) || holdsL l n)) :=
 z0s v n l fun ok => by
  rw [zZs]
  refine za (fun e => ?_) fun e => call1 (zgd l n) ?_
  ·rw [e]; rfl
  ·rw [e]; rfl
theorem z4s (s : List (List Int)) (l : LitD) : Sat Tryz.prog zFe [dS s, dL l] (dS (putL s l)) :=
 zVs s l fun ok => by
  rw [zUs]
  exact call1 (zdd (f := fun v n => !decide ((v : Int) = l.var) || holdsL l n) zds fun v hv n hn => z3s v n l) rfl
end Go.Proofs.YtajnbkhgnppckaaGreatDoor
