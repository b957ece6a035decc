/- The program's PointOn and the reference's answer the same, for all arguments. -/
import Derived.Test.YteoajklibkilmaaPoints
import Derived.Test.YteoajklibkilmaaQ9
namespace Go.Proofs.Yteoajklibkilmaa.Pure
open Go.RowKit Go.Proofs.Yteoajklibkilmaa.Q Go.Proofs.YteoajklibkilmaaW.PrintWords Go.Proofs.YteoajklibkilmaaW.PrintLast
theorem FnExactPointOn : laws_FnExactPointOn.Pure := by
  intro a b c d e f _ _ _ _ _ _
  refine ⟨1, ?_⟩
  simp [laws_FnExactPointOn.f, laws_toPoint.f, spec_PointOn_eq, impl_PointOn_eq]
end Go.Proofs.Yteoajklibkilmaa.Pure
