/- The program's PolyConvex and the reference's answer the same, for all arguments. -/
import Derived.Test.YtiieoannejlgiaaPolyPts
import Derived.Test.YtiieoannejlgiaaConvexL
import Derived.Test.YtiieoannejlgiaaQ29
import Derived.Test.YtiieoannejlgiaaQ30
import Derived.Test.YtiieoannejlgiaaQ31
namespace Go.Proofs.Ytiieoannejlgiaa.Pure
open Go.RowKit Go.Proofs.Ytiieoannejlgiaa.Q Go.Proofs.Ytiieoannejlgiaa.Ring Go.Proofs.YtiieoannejlgiaaW.PrintWords Go.Proofs.YtiieoannejlgiaaW.PrintLast

theorem FnExactPolyConvex : laws_FnExactPolyConvex.Pure := by
  intro l hm _
  refine ⟨2000010, ?_⟩
  unfold laws_FnExactPolyConvex.f
  rw [szPointS_eq l hm]
  simp only [Option.bind_some]
  by_cases h1 : l.length ≤ 1048576
  · rw [if_pos h1, if_neg (by omega), toPointS_eq _ l (by omega) h1]
    simp only [Option.bind_some]
    rw [specConvex_eq (l := l.map toPt) (by simpa using h1) _ (by simp; omega), implConvex_eq]
    simp only [Option.bind_some, bne_self_eq_false, Bool.false_eq_true, if_false]
    rw [eqPointS_self _ _ (by simp; omega) (by simp; omega)]
    rfl
  · rw [if_neg h1, if_pos (by omega)]
end Go.Proofs.Ytiieoannejlgiaa.Pure
