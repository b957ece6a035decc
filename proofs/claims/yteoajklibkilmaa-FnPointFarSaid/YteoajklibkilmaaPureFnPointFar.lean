/- Squares of distances obey the parallelogram law. -/
import Derived.Test.YteoajklibkilmaaPoints
import Derived.Test.YteoajklibkilmaaDrawPoints
import Derived.Test.YteoajklibkilmaaQ11
namespace Go.Proofs.Yteoajklibkilmaa.Pure
open Go.RowKit Go.Proofs.Yteoajklibkilmaa.Q Go.Proofs.YteoajklibkilmaaW.PrintWords Go.Proofs.YteoajklibkilmaaW.PrintLast
theorem FnPointFar : laws_FnPointFar.Pure := by
  intro l0 l1 _ _ hl _ hl1 _
  refine ⟨5, ?_⟩
  have key : ∀ t, laws_FnPointFar.j0 5 l0 l1 t = some true := by
    intro t
    simp only [laws_FnPointFar.j0]
    by_cases ht : t = true
    · rw [if_pos ht]
    · rw [if_neg ht]
      obtain ⟨a, b, c, d, hd⟩ := DrawPointFar_ok 3 hl
      rw [hd]; simp only [Option.bind_some, impl_PointFar_eq 3, spec_PointFar_eq, if_true]
      simp only [laws_FnPointFar.j1]
      by_cases h : PV a b = true ∧ PV c d = true
      · have hb := farR_bd h.1 h.2
        rw [if_neg (by simp; omega)]
        obtain ⟨u, hu⟩ : ∃ u, u = (l1.length : Int) % 11 - 5 := ⟨_, rfl⟩
        have e1 : wrap64 ((l1.length : Int) / 11) = (l1.length : Int) / 11 := w64 (by omega) (by omega)
        have e2 : Int.tmod ((l1.length : Int) / 11) 11 = (l1.length : Int) / 11 % 11 := Int.tmod_eq_emod_of_nonneg (by omega)
        obtain ⟨v, hv⟩ : ∃ v, v = (l1.length : Int) / 11 % 11 - 5 := ⟨_, rfl⟩
        rw [e1, e2, ← hu, ← hv, w64 (x := v) (by omega) (by omega)]
        have hu5 : -5 ≤ u ∧ u ≤ 5 := by omega
        have hv5 : -5 ≤ v ∧ v ≤ 5 := by omega
        clear e1 e2 hu hv
        have ha := PV_iff.1 h.1; have hc := PV_iff.1 h.2
        rw [w64 (x := a + c) (by omega) (by omega), w64 (x := b + d) (by omega) (by omega), w64 (x := a + c - u) (by omega) (by omega), w64 (x := b + d - v) (by omega) (by omega)]
        have hm : PV u v = true := PV_iff.2 (by omega)
        rw [impl_PointValid_eq]; simp only [Option.bind_some]
        by_cases hq : PV (a + c - u) (b + d - v) = true
        · rw [if_pos hq]
          simp only [impl_PointFar_eq 2, Option.bind_some]
          have b1 := farR_bd hm hq; have b2 := farR_bd h.1 hm; have b3 := farR_bd hm h.2
          rw [w64 (x := farR a b c d + farR u v (a + c - u) (b + d - v)) (by omega) (by omega), w64 (x := 2 * farR a b u v) (by omega) (by omega), w64 (x := 2 * farR u v c d) (by omega) (by omega), w64 (x := 2 * farR a b u v + 2 * farR u v c d) (by omega) (by omega)]
          congr 1
          rw [beq_iff_eq, farR_yes h.1 h.2, farR_yes hm hq, farR_yes h.1 hm, farR_yes hm h.2]
          grind
        · rw [if_neg hq]; congr 1; rw [decide_eq_true_eq]; omega
      · rw [if_pos (by rw [farR_no h]; decide)]; simp
  unfold laws_FnPointFar.f
  split <;> exact key _
end Go.Proofs.Yteoajklibkilmaa.Pure
