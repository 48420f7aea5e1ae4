/- What the program's and the document's calls of literals answer, of stores. -/
import Derived.Test.YtajnbkhgnppckaaGreatDoorPLit1
namespace Go.Proofs.YtajnbkhgnppckaaGreatDoor
open Go.RowKit
set_option linter.unusedVariables false
set_option linter.unusedSimpArgs false
theorem zrs (v : Nat) (n : Int) (l : LitD) : Sat Tryz.prog zIe [dI v, dI n, .iptr [.int .i64 l.var, .int .i64 l.op, .int .i64 l.n] 0] (dB (!decide ((v : Int) = l.var) || holdsL l n)) :=
 zos v n l fun ok => by
  rw [zns]
  refine za (fun e => ?_) fun e => call1 (zed l n) ?_
  ·rw [e]; rfl
  ·rw [e]; rfl
theorem zss (s : List (List Int)) (l : LitD) : Sat Tryz.prog zve [dS s, dL l] (dS (putL s l)) :=
 zjs s l fun ok => by
  rw [zis]
  exact call1 (zpc (f := fun v n => !decide ((v : Int) = l.var) || holdsL l n) zFr fun v hv n hn => zrs v n l) rfl
end Go.Proofs.YtajnbkhgnppckaaGreatDoor
