/- The program's PolyPlace and the reference's answer the same, for all arguments. -/
import Derived.Test.YtiieoannejlgiaaPolyPts
import Derived.Test.YtiieoannejlgiaaPlaceL
import Derived.Test.YtiieoannejlgiaaQ31
import Derived.Test.YtiieoannejlgiaaQ32
import Derived.Test.YtiieoannejlgiaaQ33
namespace Go.Proofs.Ytiieoannejlgiaa.Pure
open Go.RowKit Go.Proofs.Ytiieoannejlgiaa.Q Go.Proofs.Ytiieoannejlgiaa.Ring Go.Proofs.YtiieoannejlgiaaW.PrintWords Go.Proofs.YtiieoannejlgiaaW.PrintLast
theorem implPlace_eq (l : List Pt) (p : Pt) : impl_PolyPlace.f l p.f0 p.f1 = some (if okS l && ptB p then (placeR l p, true) else (0, false)) := by
  unfold impl_PolyPlace.f
  cases okS l && ptB p <;> rfl
theorem FnExactPolyPlace : laws_FnExactPolyPlace.Pure := by
  intro l a b hm _ _ _
  refine ⟨4000010, ?_⟩
  unfold laws_FnExactPolyPlace.f
  rw [szPointS_eq l hm]
  simp only [Option.bind_some]
  by_cases h1 : l.length ≤ 1048576
  · rw [if_pos h1, if_neg (by omega), toPointS_eq _ l (by omega) h1]
    simp only [Option.bind_some, laws_toPoint.f]
    rw [specPlace_eq (l := l.map toPt) (p := ⟨a, b⟩) (by simpa using h1) _ (by simp; omega), implPlace_eq (l.map toPt) ⟨a, b⟩]
    simp only [Option.bind_some, if_true, bne_self_eq_false]
    simp only [laws_FnExactPolyPlace.j0]
    rw [if_neg (by simp), toPointS_eq _ l (by omega) h1]
    simp only [Option.bind_some]
    rw [eqPointS_self _ _ (by simp; omega) (by simp; omega)]
    rfl
  · rw [if_neg h1, if_pos (by omega)]
end Go.Proofs.Ytiieoannejlgiaa.Pure
