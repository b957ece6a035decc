/- The program's PointGaps and the reference's answer the same, for all arguments. -/
import Derived.Test.YteoajklibkilmaaPoints
import Derived.Test.YteoajklibkilmaaQ10
namespace Go.Proofs.Yteoajklibkilmaa.Pure
open Go.RowKit Go.Proofs.Yteoajklibkilmaa.Q Go.Proofs.YteoajklibkilmaaW.PrintWords Go.Proofs.YteoajklibkilmaaW.PrintLast
theorem FnExactPointGaps : laws_FnExactPointGaps.Pure := by
  intro a b c d _ _ _ _
  refine ⟨20001, ?_⟩
  simp only [laws_FnExactPointGaps.f, laws_toPoint.f, Option.bind_some, spec_PointGaps_eq 20001 (by decide), impl_PointGaps_eq 20001 (by decide), if_true]
end Go.Proofs.Yteoajklibkilmaa.Pure
