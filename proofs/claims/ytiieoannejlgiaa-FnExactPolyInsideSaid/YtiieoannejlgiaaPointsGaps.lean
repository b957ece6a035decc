/- Closed forms of PointGaps. -/
import Derived.Test.YtiieoannejlgiaaGcd
import Derived.Test.YtiieoannejlgiaaPoints
import Derived.Test.YtiieoannejlgiaaQ42
import Derived.Test.YtiieoannejlgiaaQ45
namespace Go.Proofs.Ytiieoannejlgiaa.Pure
open Go.RowKit Go.Proofs.Ytiieoannejlgiaa.Q Go.Proofs.YtiieoannejlgiaaW.PrintWords Go.Proofs.YtiieoannejlgiaaW.PrintLast Go.Proofs.YtiieoannejlgiaaW.PrintMore

/-- What PointGaps answers. -/
def gapsR (a b c d : Int) : Int := if PV a b = true ∧ PV c d = true then (Int.gcd (c - a) (d - b) : Int) else -1
theorem spec_PointGaps_eq (k : Nat) (hk : 20000 < k) (a b c d : Int) : spec_PointGaps.f k a b c d = some (gapsR a b c d) := by
  simp only [spec_PointGaps.f, spec_PointStep_eq, Option.bind_some, gapsR, spec_l1Common.f]
  by_cases h : PV a b = true ∧ PV c d = true
  · rw [stepR_yes h.1 h.2, if_pos rfl, if_pos h]
    have := PV_iff.1 h.1; have := PV_iff.1 h.2
    rw [l1Size_eq (x := c - a) (by omega) (by omega), l1Size_eq (x := d - b) (by omega) (by omega)]
    simp only [Option.bind_some]
    rw [spec_l1Common_eq k _ _ (by omega) (by omega) (by omega), gcd_natAbs]; rfl
  · rw [stepR_no h, if_neg (by simp), if_neg h]
theorem impl_PointGaps_eq (k : Nat) (hk : 20000 < k) (a b c d : Int) : impl_PointGaps.f k a b c d = some (gapsR a b c d) := by
  obtain ⟨k, rfl⟩ : ∃ m, k = m + 1 := ⟨k - 1, by omega⟩
  simp only [impl_PointGaps.f, impl_PointStep_eq, Option.bind_some, gapsR, impl_pairOf.f]
  by_cases h : PV a b = true ∧ PV c d = true
  · rw [stepR_yes h.1 h.2, if_pos rfl, if_pos h]
    have := PV_iff.1 h.1; have := PV_iff.1 h.2
    rw [impl_gcd_eq (k + 1) (by omega) (c - a) (d - b) (by omega) (by omega)]; rfl
  · rw [stepR_no h, if_neg (by simp), if_neg h]
theorem gapsR_yes {a b c d : Int} (h : PV a b = true) (h' : PV c d = true) : gapsR a b c d = (Int.gcd (c - a) (d - b) : Int) := if_pos ⟨h, h'⟩
theorem gapsR_no {a b c d : Int} (h : ¬ (PV a b = true ∧ PV c d = true)) : gapsR a b c d = -1 := if_neg h
end Go.Proofs.Ytiieoannejlgiaa.Pure
