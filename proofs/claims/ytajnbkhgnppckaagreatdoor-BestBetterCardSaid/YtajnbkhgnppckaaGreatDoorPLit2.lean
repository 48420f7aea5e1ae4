/- What the program's and the document's calls of literals answer, of stores. -/
import Derived.Test.YtajnbkhgnppckaaGreatDoorPLit1
namespace Go.Proofs.YtajnbkhgnppckaaGreatDoor
open Go.RowKit
set_option linter.unusedVariables false
set_option linter.unusedSimpArgs false
theorem zlt (v : Nat) (n : Int) (l : LitD) : Sat Tryz.prog zPe [dI v, dI n, .iptr [.int .i64 l.var, .int .i64 l.op, .int .i64 l.n] 0] (dB (!decide ((v : Int) = l.var) || holdsL l n)) :=
 zit v n l fun ok => by
  rw [zht]
  refine za (fun e => ?_) fun e => call1 (zed l n) ?_
  ·rw [e]; rfl
  ·rw [e]; rfl
theorem zmt (s : List (List Int)) (l : LitD) : Sat Tryz.prog zCe [dS s, dL l] (dS (putL s l)) :=
 zdt s l fun ok => by
  rw [zct]
  exact call1 (zbd (f := fun v n => !decide ((v : Int) = l.var) || holdsL l n) zts fun v hv n hn => zlt v n l) rfl
end Go.Proofs.YtajnbkhgnppckaaGreatDoor
