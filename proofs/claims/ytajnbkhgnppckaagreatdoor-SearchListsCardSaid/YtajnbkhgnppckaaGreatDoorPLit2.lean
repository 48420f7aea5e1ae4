/- What the program's and the document's calls of literals answer, of stores. -/
import Derived.Test.YtajnbkhgnppckaaGreatDoorPLit1
namespace Go.Proofs.YtajnbkhgnppckaaGreatDoor
open Go.RowKit
set_option linter.unusedVariables false
set_option linter.unusedSimpArgs false
theorem zcu (v : Nat) (n : Int) (l : LitD) : Sat Tryz.prog z2e [dI v, dI n, .iptr [.int .i64 l.var, .int .i64 l.op, .int .i64 l.n] 0] (dB (!decide ((v : Int) = l.var) || holdsL l n)) :=
 z9t v n l fun ok => by
  rw [z8t]
  refine za (fun e => ?_) fun e => call1 (zsd l n) ?_
  ·rw [e]; rfl
  ·rw [e]; rfl
theorem zdu (s : List (List Int)) (l : LitD) : Sat Tryz.prog zPe [dS s, dL l] (dS (putL s l)) :=
 z4t s l fun ok => by
  rw [z3t]
  exact call1 (zEc (f := fun v n => !decide ((v : Int) = l.var) || holdsL l n) zqt fun v hv n hn => zcu v n l) rfl
end Go.Proofs.YtajnbkhgnppckaaGreatDoor
