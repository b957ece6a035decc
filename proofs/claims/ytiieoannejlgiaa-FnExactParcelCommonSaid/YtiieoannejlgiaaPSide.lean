/- Closed forms of PointSide. -/
import Derived.Test.YtiieoannejlgiaaPVal
import Derived.Test.YtiieoannejlgiaaQ21
import Derived.Test.YtiieoannejlgiaaQ4
namespace Go.Proofs.Ytiieoannejlgiaa.Pure
open Go.RowKit Go.Proofs.Ytiieoannejlgiaa.Q Go.Proofs.YtiieoannejlgiaaW.PrintWords Go.Proofs.YtiieoannejlgiaaW.PrintLast Go.Proofs.YtiieoannejlgiaaW.PrintMore

/-- The cross product of the steps from the first point to the others. -/
def crs (a b c d e f : Int) : Int := (c - a) * (f - b) - (d - b) * (e - a)
def sgn (x : Int) : Int := if x < 0 then -1 else if x > 0 then 1 else 0
theorem crs_bd {a b c d e f : Int} (h : PV a b = true) (h' : PV c d = true) (h'' : PV e f = true) : -800000000 ≤ crs a b c d e f ∧ crs a b c d e f ≤ 800000000 := by
  have := PV_iff.1 h; have := PV_iff.1 h'; have := PV_iff.1 h''
  have h1 := mul_bd (x := c - a) (y := f - b) (m := 20000) (n := 20000) (by omega) (by omega) (by omega) (by omega)
  have h2 := mul_bd (x := d - b) (y := e - a) (m := 20000) (n := 20000) (by omega) (by omega) (by omega) (by omega)
  unfold crs; omega

/-- What PointSide answers. -/
def sideR (a b c d e f : Int) : Int × Bool := if PV a b = true ∧ PV c d = true ∧ PV e f = true then (sgn (crs a b c d e f), true) else (0, false)
theorem sideR_yes {a b c d e f : Int} (h : PV a b = true) (h' : PV c d = true) (h'' : PV e f = true) : sideR a b c d e f = (sgn (crs a b c d e f), true) := if_pos ⟨h, h', h''⟩
theorem sideR_no {a b c d e f : Int} (h : ¬ (PV a b = true ∧ PV c d = true ∧ PV e f = true)) : sideR a b c d e f = (0, false) := if_neg h

theorem l1Sign_eq (x : Int) : spec_l1Sign.f x = some (sgn x) := by
  unfold spec_l1Sign.f sgn mx mn
  congr 1
  repeat' split
  all_goals omega
theorem signInt_eq (x : Int) : impl_signInt.f x = some (sgn x) := by
  unfold impl_signInt.f sgn
  repeat' split
  all_goals rfl

theorem spec_l2Step_eq {a b c d : Int} (h : PV a b = true) (h' : PV c d = true) : spec_l2Step.f a b c d = some (c - a, d - b) := by
  have := PV_iff.1 h; have := PV_iff.1 h'
  unfold spec_l2Step.f
  rw [w64 (by omega) (by omega), w64 (by omega) (by omega)]

theorem spec_cross_eq {a b c d e f : Int} (h : PV a b = true) (h' : PV c d = true) (h'' : PV e f = true) : spec_l2Cross.f (c - a) (d - b) (e - a) (f - b) = some (crs a b c d e f) := by
  have := PV_iff.1 h; have := PV_iff.1 h'; have := PV_iff.1 h''
  have h1 := mul_bd (x := c - a) (y := f - b) (m := 20000) (n := 20000) (by omega) (by omega) (by omega) (by omega)
  have h2 := mul_bd (x := d - b) (y := e - a) (m := 20000) (n := 20000) (by omega) (by omega) (by omega) (by omega)
  unfold spec_l2Cross.f crs
  rw [w64 (x := (c - a) * (f - b)) (by omega) (by omega), w64 (x := (d - b) * (e - a)) (by omega) (by omega), w64 (by omega) (by omega)]

theorem impl_cross_eq {a b c d e f : Int} (h : PV a b = true) (h' : PV c d = true) (h'' : PV e f = true) : impl_pair_cross.f (c - a) (d - b) (e - a) (f - b) = some (crs a b c d e f) := by
  have := PV_iff.1 h; have := PV_iff.1 h'; have := PV_iff.1 h''
  have h1 := mul_bd (x := c - a) (y := f - b) (m := 20000) (n := 20000) (by omega) (by omega) (by omega) (by omega)
  have h2 := mul_bd (x := d - b) (y := e - a) (m := 20000) (n := 20000) (by omega) (by omega) (by omega) (by omega)
  unfold impl_pair_cross.f crs
  rw [Int.mul_comm (e - a) (d - b), w64 (x := (c - a) * (f - b)) (by omega) (by omega), w64 (x := (d - b) * (e - a)) (by omega) (by omega), w64 (by omega) (by omega)]

theorem impl_PointSide_eq (k : Nat) (a b c d e f : Int) : impl_PointSide.f (k + 1) a b c d e f = some (sideR a b c d e f) := by
  simp only [impl_PointSide.f, impl_PointValid_eq, Option.bind_some, impl_PointSide.j0, impl_pairOf.f, impl_pair_minus.f]
  by_cases h : PV a b = true
  · by_cases h' : PV c d = true
    · by_cases h'' : PV e f = true
      · rw [if_pos h, if_pos h', if_neg (by simp [h''])]
        have := PV_iff.1 h; have := PV_iff.1 h'; have := PV_iff.1 h''
        rw [w64 (x := c - a) (by omega) (by omega), w64 (x := d - b) (by omega) (by omega), w64 (x := e - a) (by omega) (by omega), w64 (x := f - b) (by omega) (by omega)]
        simp only [impl_cross_eq h h' h'', Option.bind_some, signInt_eq, sideR_yes h h' h'']
      · rw [if_pos h, if_pos h', if_pos (by simp [h'']), sideR_no (by simp [h''])]
    · rw [if_pos h, if_neg h', if_pos trivial, sideR_no (by simp [h'])]
  · rw [if_neg h, if_pos trivial, sideR_no (by simp [h])]

theorem sgn_zero {x : Int} : sgn x = 0 ↔ x = 0 := by
  unfold sgn
  repeat' split
  all_goals omega

end Go.Proofs.Ytiieoannejlgiaa.Pure
