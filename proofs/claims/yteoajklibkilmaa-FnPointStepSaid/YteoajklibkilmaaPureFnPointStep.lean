/- A step leads there and back. -/
import Derived.Test.YteoajklibkilmaaPointsFar
import Derived.Test.YteoajklibkilmaaDrawStep
import Derived.Test.YteoajklibkilmaaQ31
import Derived.Test.YteoajklibkilmaaQ32
import Derived.Test.YteoajklibkilmaaQ5
namespace Go.Proofs.Yteoajklibkilmaa.Pure
open Go.RowKit Go.Proofs.Yteoajklibkilmaa.Q Go.Proofs.YteoajklibkilmaaW.PrintWords Go.Proofs.YteoajklibkilmaaW.PrintLast
theorem FnPointStep : laws_FnPointStep.Pure := by
  intro l0 _ _ hl
  refine ⟨5, ?_⟩
  unfold laws_FnPointStep.f
  split
  · rfl
  · obtain ⟨a, b, c, d, hd⟩ := DrawPointStep_ok 4 hl
    rw [hd]; simp only [Option.bind_some, impl_PointStep_eq 4, spec_PointStep_eq]
    rw [if_neg (by simp), if_neg (by simp)]
    have hj : ∀ s, s = stepR a b c d → laws_FnPointStep.j0 (4 + 1) s.2.2 s.2.2 (!s.2.2) a b c d s.1 s.2.1 s.1 s.2.1 = some true := by
      intro s hs
      simp only [laws_FnPointStep.j0]
      by_cases h : PV a b = true ∧ PV c d = true
      · obtain ⟨h1, h2⟩ := h
        have hA := PV_iff.1 h1; have hC := PV_iff.1 h2
        rw [stepR_yes h1 h2] at hs
        subst hs
        have hm : impl_PointMove.f (3 + 1) a b (c - a) (d - b) = some (c, d, true) := by
          simp only [impl_PointMove.f, impl_PointMove.j0, impl_PointValid_eq, impl_stepValid.f, impl_pairOf.f, impl_pair_plus.f, impl_pair_point.f, Option.bind_some]
          rw [if_pos h1, impl_inRange_eq _ _ _ (by omega) (by omega)]
          simp only [Option.bind_some]
          rw [if_neg (by simp; omega), w64 (x := a + (c - a)) (by omega) (by omega), w64 (x := b + (d - b)) (by omega) (by omega), show a + (c - a) = c by omega, show b + (d - b) = d by omega, if_pos h2]
        simp only [hm, impl_PointStep_eq 3, Option.bind_some, stepR_yes h2 h1, impl_PointFar_eq 3, farR_yes h1 h2]
        have b1 := sq_bd (x := c - a) (m := 20000) (by omega) (by omega)
        have b2 := sq_bd (x := d - b) (m := 20000) (by omega) (by omega)
        have e1 : wrap64 (-(c - a)) = a - c := by rw [w64 (by omega) (by omega)]; omega
        have e2 : wrap64 (-(d - b)) = b - d := by rw [w64 (by omega) (by omega)]; omega
        rw [e1, e2, w64 (x := (c - a) * (c - a)) (by omega) (by omega), w64 (x := (d - b) * (d - b)) (by omega) (by omega), w64 (by omega) (by omega), farR_yes h2 h1]
        simp
        grind
      · rw [stepR_no h] at hs
        subst hs
        simp
    exact hj _ rfl
end Go.Proofs.Yteoajklibkilmaa.Pure
