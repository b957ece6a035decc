/- The program's PolyEdge and the reference's answer the same, for all arguments. -/
import Derived.Test.YtiieoannejlgiaaPolyPts
import Derived.Test.YtiieoannejlgiaaEdgeL
import Derived.Test.YtiieoannejlgiaaQ43
import Derived.Test.YtiieoannejlgiaaQ46
import Derived.Test.YtiieoannejlgiaaQ47
namespace Go.Proofs.Ytiieoannejlgiaa.Pure
open Go.RowKit Go.Proofs.Ytiieoannejlgiaa.Q Go.Proofs.Ytiieoannejlgiaa.Ring Go.Proofs.YtiieoannejlgiaaW.PrintWords Go.Proofs.YtiieoannejlgiaaW.PrintLast
theorem implEdge_eq (l : List Pt) : impl_PolyEdge.f l = some (if okS l = true then edgeS l l.length else -1) := by unfold impl_PolyEdge.f; cases okS l <;> rfl
theorem FnExactPolyEdge : laws_FnExactPolyEdge.Pure := by
  intro l hm _
  refine ⟨2000010, ?_⟩
  unfold laws_FnExactPolyEdge.f
  rw [szPointS_eq l hm]
  simp only [Option.bind_some]
  by_cases h1 : l.length ≤ 1048576
  · rw [if_pos h1, if_neg (by omega), toPointS_eq _ l (by omega) h1]
    simp only [Option.bind_some]
    rw [specEdge_eq (l := l.map toPt) (by simpa using h1) _ (by simp; omega), implEdge_eq]
    simp only [Option.bind_some, if_true]
    rw [eqPointS_self _ _ (by simp; omega) (by simp; omega)]
    rfl
  · rw [if_neg h1, if_pos (by omega)]
end Go.Proofs.Ytiieoannejlgiaa.Pure
