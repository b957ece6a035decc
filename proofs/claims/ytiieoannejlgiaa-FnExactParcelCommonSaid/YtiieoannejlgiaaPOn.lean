/- Closed forms of PointOn. -/
import Derived.Test.YtiieoannejlgiaaPSide
import Derived.Test.YtiieoannejlgiaaQ17
import Derived.Test.YtiieoannejlgiaaQ22
namespace Go.Proofs.Ytiieoannejlgiaa.Pure
open Go.RowKit Go.Proofs.Ytiieoannejlgiaa.Q Go.Proofs.YtiieoannejlgiaaW.PrintWords Go.Proofs.YtiieoannejlgiaaW.PrintLast Go.Proofs.YtiieoannejlgiaaW.PrintMore

/-- What PointOn answers. -/
def onP (a b c d e f : Int) : Prop := crs a b c d e f = 0 ∧ min a c ≤ e ∧ e ≤ max a c ∧ min b d ≤ f ∧ f ≤ max b d
instance (a b c d e f : Int) : Decidable (onP a b c d e f) := by unfold onP; infer_instance
def onR (a b c d e f : Int) : Bool := decide (PV a b = true ∧ PV c d = true ∧ PV e f = true ∧ onP a b c d e f)

theorem spec_l2On_eq {a b c d e f : Int} (h : PV a b = true) (h' : PV c d = true) (h'' : PV e f = true) : spec_l2On.f a b c d e f = some (decide (onP a b c d e f)) := by
  unfold spec_l2On.f
  rw [spec_l2Step_eq h h', spec_l2Step_eq h h'']
  simp only [Option.bind_some, spec_cross_eq h h' h'', spec_l6In_eq, mx_eq, mn_eq]
  by_cases h0 : crs a b c d e f = 0
  · rw [if_pos h0]
    by_cases h1 : min a c ≤ e ∧ e ≤ max a c
    · rw [if_pos (by simpa using h1)]; congr 1; rw [decide_eq_decide]; unfold onP; omega
    · rw [if_neg (by simpa using h1)]; congr 1; symm; rw [decide_eq_false_iff_not]; unfold onP; omega
  · rw [if_neg h0]; congr 1; symm; rw [decide_eq_false_iff_not]; unfold onP; omega

theorem impl_between_eq (a b c : Int) : impl_between.f a b c = some (decide (min a b ≤ c ∧ c ≤ max a b)) := by
  unfold impl_between.f
  rw [mx_eq, mn_eq]
  by_cases h : min a b ≤ c
  · rw [if_pos h]; congr 1; rw [decide_eq_decide]; omega
  · rw [if_neg h]; congr 1; symm; rw [decide_eq_false_iff_not]; omega

theorem impl_PointOn_eq (k : Nat) (a b c d e f : Int) : impl_PointOn.f (k + 1) a b c d e f = some (onR a b c d e f) := by
  simp only [impl_PointOn.f, impl_PointSide_eq, Option.bind_some, impl_PointOn.j0, impl_between_eq, onR]
  by_cases h : PV a b = true ∧ PV c d = true ∧ PV e f = true
  · rw [sideR_yes h.1 h.2.1 h.2.2, if_pos rfl]
    by_cases h0 : crs a b c d e f = 0
    · rw [if_neg (by simp [sgn_zero.2 h0])]
      by_cases h1 : min a c ≤ e ∧ e ≤ max a c
      · rw [if_pos (by simpa using h1)]; congr 1; rw [decide_eq_decide]
        constructor
        · intro hh; exact ⟨h.1, h.2.1, h.2.2, h0, by omega, by omega, by omega, by omega⟩
        · rintro ⟨_, _, _, _, _, _, h5, h6⟩; exact ⟨h5, h6⟩
      · rw [if_neg (by simpa using h1)]; congr 1; symm; rw [decide_eq_false_iff_not]; unfold onP; omega
    · rw [if_pos (by simpa [sgn_zero] using h0)]; congr 1; symm; rw [decide_eq_false_iff_not]; unfold onP; omega
  · rw [sideR_no h, if_neg (by simp), if_pos trivial]; congr 1; symm; rw [decide_eq_false_iff_not]
    rintro ⟨h1, h2, h3, _⟩; exact h ⟨h1, h2, h3⟩

end Go.Proofs.Ytiieoannejlgiaa.Pure
