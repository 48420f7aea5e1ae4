/- What the program's and the document's calls of literals answer, of stores. -/
import Derived.Test.YtajnbkhgnppckaaGreatDoorPLit1
namespace Go.Proofs.YtajnbkhgnppckaaGreatDoor
open Go.RowKit
set_option linter.unusedVariables false
set_option linter.unusedSimpArgs false
theorem zts (v : Nat) (n : Int) (l : LitD) : Sat Tryz.prog zGe [dI v, dI n, .iptr [.int .i64 l.var, .int .i64 l.op, .int .i64 l.n] 0] (dB (!decide ((v : Int) = l.var) || holdsL l n)) :=
 zqs v n l fun ok => by
  rw [zps]
  refine za (fun e => ?_) fun e => call1 (z9c l n) ?_
  ·rw [e]; rfl
  ·rw [e]; rfl
theorem zus (s : List (List Int)) (l : LitD) : Sat Tryz.prog zte [dS s, dL l] (dS (putL s l)) :=
 zls s l fun ok => by
  rw [zks]
  exact call1 (znc (f := fun v n => !decide ((v : Int) = l.var) || holdsL l n) zIr fun v hv n hn => zts v n l) rfl
end Go.Proofs.YtajnbkhgnppckaaGreatDoor
