/- The draw of two points never fails. -/
import Derived.Test.YteoajklibkilmaaDrawPoints
import Derived.Test.YteoajklibkilmaaQ25
namespace Go.Proofs.Yteoajklibkilmaa.Pure
open Go.RowKit Go.Proofs.Yteoajklibkilmaa.Q Go.Proofs.YteoajklibkilmaaW.PrintWords Go.Proofs.YteoajklibkilmaaW.PrintLast Go.Proofs.YteoajklibkilmaaW.PrintMore

theorem DrawPointStep_ok (k : Nat) {l : List Int} (hl : ∀ x ∈ l, (Lit.int .u8 x).wf = true) : ∃ a b c d, spec_DrawPointStep.f (k + 1) l = some (a, b, c, d) := by
  unfold spec_DrawPointStep.f
  obtain ⟨b, h0, hb⟩ := open_ok hl
  rw [h0]; simp only [Option.bind_some]
  obtain ⟨x1, y1, q1, h1, _, _, _⟩ := l91Point_ok k hb (p := 0) (by omega)
  rw [h1]; simp only [Option.bind_some]
  obtain ⟨x2, y2, q2, h2, _⟩ := l91Point_ok k hb (p := q1) (by omega)
  rw [h2]; simp only [Option.bind_some]
  exact ⟨_, _, _, _, rfl⟩
end Go.Proofs.Yteoajklibkilmaa.Pure
