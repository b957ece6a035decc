/- Closed forms of the functions of valid points and steps, as told by the printed functions. -/
import Derived.Test.YteoajklibkilmaaQ2
import Derived.Test.YteoajklibkilmaaQ3
import Derived.Test.YteoajklibkilmaaQ7
import Derived.Test.YteoajklibkilmaaQ8
namespace Go.Proofs.Yteoajklibkilmaa.Pure
open Go.RowKit Go.Proofs.Yteoajklibkilmaa.Q Go.Proofs.YteoajklibkilmaaW.PrintWords Go.Proofs.YteoajklibkilmaaW.PrintLast Go.Proofs.YteoajklibkilmaaW.PrintMore

theorem w64 {x : Int} (h0 : -9223372036854775808 ≤ x) (h1 : x ≤ 9223372036854775807) : wrap64 x = x := by
  unfold wrap64; omega

theorem mx_eq (a b : Int) : mx a b = max a b := by unfold mx; split <;> omega
theorem mn_eq (a b : Int) : mn a b = min a b := by unfold mn; split <;> omega

/-- A valid point. -/
def PV (x y : Int) : Bool := decide (-10000 ≤ x ∧ x ≤ 10000 ∧ -10000 ≤ y ∧ y ≤ 10000)
theorem PV_iff {x y : Int} : PV x y = true ↔ (-10000 ≤ x ∧ x ≤ 10000 ∧ -10000 ≤ y ∧ y ≤ 10000) := by simp [PV]

theorem spec_l6In_eq (a b c : Int) : spec_l6In.f a b c = some (decide (b ≤ a ∧ a ≤ c)) := by
  unfold spec_l6In.f
  by_cases h : a ≥ b
  · rw [if_pos h]; congr 1; rw [decide_eq_decide]; omega
  · rw [if_neg h]; congr 1; symm; rw [decide_eq_false_iff_not]; omega

theorem spec_PointValid_eq (x y : Int) : spec_PointValid.f x y = some (PV x y) := by
  simp only [spec_PointValid.f, spec_l6In_eq, Option.bind_some, PV]
  by_cases h : (-10000 ≤ x ∧ x ≤ 10000)
  · simp [h]
  · rw [if_neg (by simpa using h)]; congr 1; symm; rw [decide_eq_false_iff_not]; omega

theorem impl_within_eq (a m : Int) (h0 : 0 ≤ m) (h1 : m ≤ 9223372036854775807) : impl_within.f a m = some (decide (-m ≤ a ∧ a ≤ m)) := by
  unfold impl_within.f
  rw [w64 (by omega) (by omega)]
  by_cases h : -m ≤ a
  · rw [if_pos h]; congr 1; rw [decide_eq_decide]; omega
  · rw [if_neg h]; congr 1; symm; rw [decide_eq_false_iff_not]; omega

theorem impl_inRange_eq (x y m : Int) (h0 : 0 ≤ m) (h1 : m ≤ 9223372036854775807) : impl_pair_inRange.f x y m = some (decide (-m ≤ x ∧ x ≤ m ∧ -m ≤ y ∧ y ≤ m)) := by
  simp only [impl_pair_inRange.f, impl_within_eq _ _ h0 h1, Option.bind_some]
  by_cases h : (-m ≤ x ∧ x ≤ m)
  · simp [h]
  · rw [if_neg (by simpa using h)]; congr 1; symm; rw [decide_eq_false_iff_not]; omega

theorem impl_PointValid_eq (x y : Int) : impl_PointValid.f x y = some (PV x y) := by
  simp only [impl_PointValid.f, impl_pairOf.f, Option.bind_some]
  rw [impl_inRange_eq _ _ _ (by omega) (by omega)]
  rfl

/-- What PointStep answers. -/
def stepR (a b c d : Int) : Int × Int × Bool := if PV a b = true ∧ PV c d = true then (c - a, d - b, true) else (0, 0, false)
theorem stepR_yes {a b c d : Int} (h : PV a b = true) (h' : PV c d = true) : stepR a b c d = (c - a, d - b, true) := if_pos ⟨h, h'⟩
theorem stepR_no {a b c d : Int} (h : ¬ (PV a b = true ∧ PV c d = true)) : stepR a b c d = (0, 0, false) := if_neg h

theorem spec_PointStep_eq (a b c d : Int) : spec_PointStep.f a b c d = some (stepR a b c d) := by
  simp only [spec_PointStep.f, spec_PointValid_eq, Option.bind_some, spec_l2Step.f]
  by_cases h : PV a b = true
  · by_cases h' : PV c d = true
    · rw [if_pos h, if_pos h', stepR_yes h h']
      have := PV_iff.1 h; have := PV_iff.1 h'
      rw [w64 (by omega) (by omega), w64 (by omega) (by omega)]
    · rw [if_pos h, if_neg h', stepR_no (by simp [h'])]
  · rw [if_neg h, stepR_no (by simp [h])]

theorem impl_PointStep_eq (k : Nat) (a b c d : Int) : impl_PointStep.f (k + 1) a b c d = some (stepR a b c d) := by
  simp only [impl_PointStep.f, impl_PointValid_eq, Option.bind_some, impl_PointStep.j0, impl_pairOf.f, impl_pair_minus.f, impl_pair_point.f]
  by_cases h : PV a b = true
  · by_cases h' : PV c d = true
    · rw [if_pos h, if_neg (by simp [h']), stepR_yes h h']
      have := PV_iff.1 h; have := PV_iff.1 h'
      rw [w64 (by omega) (by omega), w64 (by omega) (by omega)]
    · rw [if_pos h, if_pos (by simp [h']), stepR_no (by simp [h'])]
  · rw [if_neg h, if_pos trivial, stepR_no (by simp [h])]

theorem mul_bd {x y m n : Int} (hx : -m ≤ x ∧ x ≤ m) (hy : -n ≤ y ∧ y ≤ n) (hm : 0 ≤ m) (hn : 0 ≤ n) : -(m * n) ≤ x * y ∧ x * y ≤ m * n := by
  have h1 : x.natAbs ≤ m.toNat := by omega
  have h2 : y.natAbs ≤ n.toNat := by omega
  have h3 : (x * y).natAbs ≤ m.toNat * n.toNat := by rw [Int.natAbs_mul]; exact Nat.mul_le_mul h1 h2
  have h4 : ((m.toNat * n.toNat : Nat) : Int) = m * n := by rw [Int.natCast_mul, Int.toNat_of_nonneg hm, Int.toNat_of_nonneg hn]
  omega

end Go.Proofs.Yteoajklibkilmaa.Pure
