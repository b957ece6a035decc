/- The program's PointSide and the reference's answer the same, for all arguments. -/
import Derived.Test.YteoajklibkilmaaPoints
import Derived.Test.YteoajklibkilmaaQ7
namespace Go.Proofs.Yteoajklibkilmaa.Pure
open Go.RowKit Go.Proofs.Yteoajklibkilmaa.Q Go.Proofs.YteoajklibkilmaaW.PrintWords Go.Proofs.YteoajklibkilmaaW.PrintLast
theorem FnExactPointSide : laws_FnExactPointSide.Pure := by
  intro a b c d e f _ _ _ _ _ _
  refine ⟨1, ?_⟩
  simp [laws_FnExactPointSide.f, laws_toPoint.f, spec_PointSide_eq, impl_PointSide_eq]
end Go.Proofs.Yteoajklibkilmaa.Pure
