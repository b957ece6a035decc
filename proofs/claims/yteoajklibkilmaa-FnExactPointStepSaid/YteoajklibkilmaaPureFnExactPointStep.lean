/- The program's PointStep and the reference's answer the same, for all arguments. -/
import Derived.Test.YteoajklibkilmaaPoints
import Derived.Test.YteoajklibkilmaaQ3
namespace Go.Proofs.Yteoajklibkilmaa.Pure
open Go.RowKit Go.Proofs.Yteoajklibkilmaa.Q Go.Proofs.YteoajklibkilmaaW.PrintWords Go.Proofs.YteoajklibkilmaaW.PrintLast
theorem FnExactPointStep : laws_FnExactPointStep.Pure := by
  intro a b c d _ _ _ _
  refine ⟨1, ?_⟩
  simp [laws_FnExactPointStep.f, laws_toPoint.f, laws_eqPoint.f, spec_PointStep_eq, impl_PointStep_eq]
end Go.Proofs.Yteoajklibkilmaa.Pure
