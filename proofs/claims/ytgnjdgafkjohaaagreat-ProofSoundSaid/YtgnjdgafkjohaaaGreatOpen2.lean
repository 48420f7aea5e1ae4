/- Steps, opened. -/
import Derived.Test.YtgnjdgafkjohaaaGreatOpen
import Derived.Test.YtgnjdgafkjohaaaGreatMA
namespace Go.Proofs.YtgnjdgafkjohaaaGreat
open Go.RowKit Go.ChangeShapes Go.WideShapes Go.Deep
set_option linter.unusedVariables false

theorem openAt_step {P : Program} {t : TypeId} {f0 f1 f2 : Field} (ht : P.underlying t = some (.struct #[f0, f1, f2])) (hone : oneCellFields P #[f0, f1, f2] = true) (hc : P.cellsOf t = 3) (h0 : OpenAt Int P f0.type) (h1 : OpenAt Int P f1.type) (h2 : OpenAt (List LitD) P f2.type) : OpenAt StepD P t :=
  ⟨hc, fun H enc w fuel cs x h hw => by
    obtain ⟨hl, n, hf⟩ := open_fields ht hone hc h hw
    obtain ⟨v0, y0, c0, t0, w0⟩ := hf 0 f0 rfl
    obtain ⟨v1, y1, c1, t1, w1⟩ := hf 1 f1 rfl
    obtain ⟨v2, y2, c2, t2, w2⟩ := hf 2 f2 rfl
    obtain ⟨x0, e0, q0⟩ := h0.2 H enc w n _ _ t0 w0
    obtain ⟨x1, e1, q1⟩ := h1.2 H enc w n _ _ t1 w1
    obtain ⟨x2, q2⟩ := h2.2 H enc w n _ _ t2 w2
    match cs, hl, c0, c1, c2 with
    | [a, b, c], _, c0, c1, c2 =>
      simp at c0 c1 c2 e0 e1
      subst c0 c1 c2 e0 e1
      exact ⟨⟨x0, x1, x2⟩, _, rfl, q0, q1, q2⟩⟩
end Go.Proofs.YtgnjdgafkjohaaaGreat
