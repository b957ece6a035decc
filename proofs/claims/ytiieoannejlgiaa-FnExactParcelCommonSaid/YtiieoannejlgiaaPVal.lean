/- Closed forms of the functions of valid points, as told by the printed functions. -/
import Derived.Test.YtiieoannejlgiaaQ2
import Derived.Test.YtiieoannejlgiaaQ3
namespace Go.Proofs.Ytiieoannejlgiaa.Pure
open Go.RowKit Go.Proofs.Ytiieoannejlgiaa.Q Go.Proofs.YtiieoannejlgiaaW.PrintWords Go.Proofs.YtiieoannejlgiaaW.PrintLast Go.Proofs.YtiieoannejlgiaaW.PrintMore

theorem w64 {x : Int} (h0 : -9223372036854775808 ≤ x) (h1 : x ≤ 9223372036854775807) : wrap64 x = x := by
  unfold wrap64; omega

theorem mx_eq (a b : Int) : mx a b = max a b := by unfold mx; split <;> omega
theorem mn_eq (a b : Int) : mn a b = min a b := by unfold mn; split <;> omega

/-- A valid point. -/
def PV (x y : Int) : Bool := decide (-10000 ≤ x ∧ x ≤ 10000 ∧ -10000 ≤ y ∧ y ≤ 10000)
theorem PV_iff {x y : Int} : PV x y = true ↔ (-10000 ≤ x ∧ x ≤ 10000 ∧ -10000 ≤ y ∧ y ≤ 10000) := by simp [PV]

theorem spec_l6In_eq (a b c : Int) : spec_l6In.f a b c = some (decide (b ≤ a ∧ a ≤ c)) := by
  unfold spec_l6In.f
  by_cases h : a ≥ b
  · rw [if_pos h]; congr 1; rw [decide_eq_decide]; omega
  · rw [if_neg h]; congr 1; symm; rw [decide_eq_false_iff_not]; omega

theorem spec_PointValid_eq (x y : Int) : spec_PointValid.f x y = some (PV x y) := by
  simp only [spec_PointValid.f, spec_l6In_eq, Option.bind_some, PV]
  by_cases h : (-10000 ≤ x ∧ x ≤ 10000)
  · simp [h]
  · rw [if_neg (by simpa using h)]; congr 1; symm; rw [decide_eq_false_iff_not]; omega

theorem impl_within_eq (a m : Int) (h0 : 0 ≤ m) (h1 : m ≤ 9223372036854775807) : impl_within.f a m = some (decide (-m ≤ a ∧ a ≤ m)) := by
  unfold impl_within.f
  rw [w64 (by omega) (by omega)]
  by_cases h : -m ≤ a
  · rw [if_pos h]; congr 1; rw [decide_eq_decide]; omega
  · rw [if_neg h]; congr 1; symm; rw [decide_eq_false_iff_not]; omega

theorem impl_inRange_eq (x y m : Int) (h0 : 0 ≤ m) (h1 : m ≤ 9223372036854775807) : impl_pair_inRange.f x y m = some (decide (-m ≤ x ∧ x ≤ m ∧ -m ≤ y ∧ y ≤ m)) := by
  simp only [impl_pair_inRange.f, impl_within_eq _ _ h0 h1, Option.bind_some]
  by_cases h : (-m ≤ x ∧ x ≤ m)
  · simp [h]
  · rw [if_neg (by simpa using h)]; congr 1; symm; rw [decide_eq_false_iff_not]; omega

theorem impl_PointValid_eq (x y : Int) : impl_PointValid.f x y = some (PV x y) := by
  simp only [impl_PointValid.f, impl_pairOf.f, Option.bind_some]
  rw [impl_inRange_eq _ _ _ (by omega) (by omega)]
  rfl

theorem mul_bd {x y m n : Int} (hx : -m ≤ x ∧ x ≤ m) (hy : -n ≤ y ∧ y ≤ n) (hm : 0 ≤ m) (hn : 0 ≤ n) : -(m * n) ≤ x * y ∧ x * y ≤ m * n := by
  have h1 : x.natAbs ≤ m.toNat := by omega
  have h2 : y.natAbs ≤ n.toNat := by omega
  have h3 : (x * y).natAbs ≤ m.toNat * n.toNat := by rw [Int.natAbs_mul]; exact Nat.mul_le_mul h1 h2
  have h4 : ((m.toNat * n.toNat : Nat) : Int) = m * n := by rw [Int.natCast_mul, Int.toNat_of_nonneg hm, Int.toNat_of_nonneg hn]
  omega

end Go.Proofs.Ytiieoannejlgiaa.Pure
