/- The program's PointFar and the reference's answer the same, for all arguments. -/
import Derived.Test.YteoajklibkilmaaPoints
import Derived.Test.YteoajklibkilmaaQ4
namespace Go.Proofs.Yteoajklibkilmaa.Pure
open Go.RowKit Go.Proofs.Yteoajklibkilmaa.Q Go.Proofs.YteoajklibkilmaaW.PrintWords Go.Proofs.YteoajklibkilmaaW.PrintLast
theorem FnExactPointFar : laws_FnExactPointFar.Pure := by
  intro a b c d _ _ _ _
  refine ⟨1, ?_⟩
  simp [laws_FnExactPointFar.f, laws_toPoint.f, spec_PointFar_eq, impl_PointFar_eq]
end Go.Proofs.Yteoajklibkilmaa.Pure
