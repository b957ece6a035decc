/- Closed forms of the functions of valid points and steps, as told by the printed functions. -/
import Derived.Test.YtiieoannejlgiaaPVal
import Derived.Test.YtiieoannejlgiaaQ41
import Derived.Test.YtiieoannejlgiaaQ44
namespace Go.Proofs.Ytiieoannejlgiaa.Pure
open Go.RowKit Go.Proofs.Ytiieoannejlgiaa.Q Go.Proofs.YtiieoannejlgiaaW.PrintWords Go.Proofs.YtiieoannejlgiaaW.PrintLast Go.Proofs.YtiieoannejlgiaaW.PrintMore

/-- What PointStep answers. -/
def stepR (a b c d : Int) : Int × Int × Bool := if PV a b = true ∧ PV c d = true then (c - a, d - b, true) else (0, 0, false)
theorem stepR_yes {a b c d : Int} (h : PV a b = true) (h' : PV c d = true) : stepR a b c d = (c - a, d - b, true) := if_pos ⟨h, h'⟩
theorem stepR_no {a b c d : Int} (h : ¬ (PV a b = true ∧ PV c d = true)) : stepR a b c d = (0, 0, false) := if_neg h

theorem spec_PointStep_eq (a b c d : Int) : spec_PointStep.f a b c d = some (stepR a b c d) := by
  simp only [spec_PointStep.f, spec_PointValid_eq, Option.bind_some, spec_l2Step.f]
  by_cases h : PV a b = true
  · by_cases h' : PV c d = true
    · rw [if_pos h, if_pos h', stepR_yes h h']
      have := PV_iff.1 h; have := PV_iff.1 h'
      rw [w64 (by omega) (by omega), w64 (by omega) (by omega)]
    · rw [if_pos h, if_neg h', stepR_no (by simp [h'])]
  · rw [if_neg h, stepR_no (by simp [h])]

theorem impl_PointStep_eq (k : Nat) (a b c d : Int) : impl_PointStep.f (k + 1) a b c d = some (stepR a b c d) := by
  simp only [impl_PointStep.f, impl_PointValid_eq, Option.bind_some, impl_PointStep.j0, impl_pairOf.f, impl_pair_minus.f, impl_pair_point.f]
  by_cases h : PV a b = true
  · by_cases h' : PV c d = true
    · rw [if_pos h, if_neg (by simp [h']), stepR_yes h h']
      have := PV_iff.1 h; have := PV_iff.1 h'
      rw [w64 (by omega) (by omega), w64 (by omega) (by omega)]
    · rw [if_pos h, if_pos (by simp [h']), stepR_no (by simp [h'])]
  · rw [if_neg h, if_pos trivial, stepR_no (by simp [h])]

end Go.Proofs.Ytiieoannejlgiaa.Pure
