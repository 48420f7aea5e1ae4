/- What the program's and the document's calls of literals answer, of stores. -/
import Derived.Test.YtajnbkhgnppckaaGreatPLit1
namespace Go.Proofs.YtajnbkhgnppckaaGreat
open Go.RowKit
set_option linter.unusedVariables false
set_option linter.unusedSimpArgs false

theorem lit_Set_1_ok (v : Nat) (n : Int) (l : LitD) : Sat Tryz.prog f_lit_Set_1 [dI v, dI n, .iptr [.int .i64 l.var, .int .i64 l.op, .int .i64 l.n] 0] (dB (!decide ((v : Int) = l.var) || holdsL l n)) :=
  lit_Set_1_sat v n l fun ok => by
    rw [lit_Set_1_eq]
    refine sel_intro (fun e => ?_) fun e => call1 (model_Lit_ok l n) ?_
    · rw [e]; rfl
    · rw [e]; rfl
theorem lit_Set_ok (s : List (List Int)) (l : LitD) : Sat Tryz.prog f_lit_Set [dS s, dL l] (dS (putL s l)) :=
  lit_Set_sat s l fun ok => by
    rw [lit_Set_eq]
    exact call1 (store_Keep_ok (f := fun v n => !decide ((v : Int) = l.var) || holdsL l n) lit_Set_1_ent fun v hv n hn => lit_Set_1_ok v n l) rfl
end Go.Proofs.YtajnbkhgnppckaaGreat
