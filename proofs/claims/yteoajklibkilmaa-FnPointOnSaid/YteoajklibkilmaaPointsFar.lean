/- Closed forms of PointFar. -/
import Derived.Test.YteoajklibkilmaaPoints
import Derived.Test.YteoajklibkilmaaQ10
import Derived.Test.YteoajklibkilmaaQ11
namespace Go.Proofs.Yteoajklibkilmaa.Pure
open Go.RowKit Go.Proofs.Yteoajklibkilmaa.Q Go.Proofs.YteoajklibkilmaaW.PrintWords Go.Proofs.YteoajklibkilmaaW.PrintLast Go.Proofs.YteoajklibkilmaaW.PrintMore

/-- What PointFar answers. -/
def farR (a b c d : Int) : Int := if PV a b = true ∧ PV c d = true then (c - a) * (c - a) + (d - b) * (d - b) else -1
theorem sq_bd {x m : Int} (hx : -m ≤ x ∧ x ≤ m) (hm : 0 ≤ m) : 0 ≤ x * x ∧ x * x ≤ m * m := ⟨by rw [← Int.natAbs_mul_self' x]; exact Int.natCast_nonneg _, (mul_bd hx hx hm hm).2⟩

theorem spec_PointFar_eq (a b c d : Int) : spec_PointFar.f a b c d = some (farR a b c d) := by
  simp only [spec_PointFar.f, spec_PointStep_eq, Option.bind_some, farR]
  by_cases h : PV a b = true ∧ PV c d = true
  · rw [stepR_yes h.1 h.2, if_pos rfl, if_pos h]
    have := PV_iff.1 h.1; have := PV_iff.1 h.2
    have h1 := sq_bd (x := c - a) (m := 20000) (by omega) (by omega)
    have h2 := sq_bd (x := d - b) (m := 20000) (by omega) (by omega)
    simp only
    rw [w64 (x := (c - a) * (c - a)) (by omega) (by omega), w64 (x := (d - b) * (d - b)) (by omega) (by omega), w64 (by omega) (by omega)]
  · rw [stepR_no h, if_neg (by simp), if_neg h]

theorem impl_PointFar_eq (k : Nat) (a b c d : Int) : impl_PointFar.f (k + 1) a b c d = some (farR a b c d) := by
  simp only [impl_PointFar.f, impl_PointStep_eq, Option.bind_some, farR, impl_pairOf.f, impl_pair_square.f]
  by_cases h : PV a b = true ∧ PV c d = true
  · rw [stepR_yes h.1 h.2, if_pos rfl, if_pos h]
    have := PV_iff.1 h.1; have := PV_iff.1 h.2
    have h1 := sq_bd (x := c - a) (m := 20000) (by omega) (by omega)
    have h2 := sq_bd (x := d - b) (m := 20000) (by omega) (by omega)
    simp only
    rw [w64 (x := (c - a) * (c - a)) (by omega) (by omega), w64 (x := (d - b) * (d - b)) (by omega) (by omega), w64 (by omega) (by omega)]
  · rw [stepR_no h, if_neg (by simp), if_neg h]

theorem farR_yes {a b c d : Int} (h : PV a b = true) (h' : PV c d = true) : farR a b c d = (c - a) * (c - a) + (d - b) * (d - b) := if_pos ⟨h, h'⟩
theorem farR_no {a b c d : Int} (h : ¬ (PV a b = true ∧ PV c d = true)) : farR a b c d = -1 := if_neg h
theorem farR_bd {a b c d : Int} (h : PV a b = true) (h' : PV c d = true) : 0 ≤ farR a b c d ∧ farR a b c d ≤ 800000000 := by
  rw [farR_yes h h']
  have := PV_iff.1 h; have := PV_iff.1 h'
  have h1 := sq_bd (x := c - a) (m := 20000) (by omega) (by omega)
  have h2 := sq_bd (x := d - b) (m := 20000) (by omega) (by omega)
  omega
end Go.Proofs.Yteoajklibkilmaa.Pure
