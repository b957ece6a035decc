/- Sides have six orders. -/
import Derived.Test.YteoajklibkilmaaPoints
import Derived.Test.YteoajklibkilmaaDrawThree
import Derived.Test.YteoajklibkilmaaQ35
namespace Go.Proofs.Yteoajklibkilmaa.Pure
open Go.RowKit Go.Proofs.Yteoajklibkilmaa.Q Go.Proofs.YteoajklibkilmaaW.PrintWords Go.Proofs.YteoajklibkilmaaW.PrintLast
theorem crs_cyc (a b c d e f : Int) : crs c d e f a b = crs a b c d e f := by unfold crs; grind
theorem crs_swap (a b c d e f : Int) : crs c d a b e f = - crs a b c d e f := by unfold crs; grind
theorem crs_self (a b c d : Int) : crs a b c d a b = 0 := by unfold crs; grind
theorem sgn_neg (x : Int) : sgn (-x) = - sgn x := by
  unfold sgn
  repeat' split
  all_goals omega
theorem sgn_bd (x : Int) : -1 ≤ sgn x ∧ sgn x ≤ 1 := by
  unfold sgn
  repeat' split
  all_goals omega
theorem FnPointSide : laws_FnPointSide.Pure := by
  intro l0 _ _ hl
  refine ⟨5, ?_⟩
  unfold laws_FnPointSide.f
  split
  · rfl
  · have hdr : ∃ a b c d e f, spec_DrawPointSide.f 5 l0 = some (a, b, c, d, e, f) := by
      unfold spec_DrawPointSide.f
      obtain ⟨b, h0, hb⟩ := open_ok hl
      rw [h0]; simp only [Option.bind_some]
      obtain ⟨x1, y1, x2, y2, x3, y3, q, h⟩ := l91Three_ok 4 hb (p := 0) (by omega)
      rw [h]; exact ⟨_, _, _, _, _, _, rfl⟩
    obtain ⟨a, b, c, d, e, f, hd⟩ := hdr
    rw [hd]; simp only [Option.bind_some, impl_PointSide_eq 4, spec_PointSide_eq 4]
    rw [if_neg (by simp)]
    simp only [if_true, laws_FnPointSide.j0, impl_PointSide_eq 3, Option.bind_some]
    by_cases h : PV a b = true ∧ PV c d = true ∧ PV e f = true
    · obtain ⟨h1, h2, h3⟩ := h
      rw [sideR_yes h1 h2 h3, sideR_yes h2 h3 h1, sideR_yes h2 h1 h3, sideR_yes h1 h2 h1]
      have := sgn_bd (crs a b c d e f)
      rw [crs_cyc a b c d e f, crs_swap a b c d e f, crs_self a b c d, sgn_neg]
      rw [w64 (by omega) (by omega)]
      simp [sgn]
    · rw [sideR_no h]; simp
end Go.Proofs.Yteoajklibkilmaa.Pure
