/- The program's ParcelMarks and the reference's answer the same, for all arguments; its result shares no memory. -/
import Derived.Test.YtiieoannejlgiaaMarkPts
import Derived.Test.YtiieoannejlgiaaMarksL
import Derived.Test.YtiieoannejlgiaaQ38
import Derived.Test.YtiieoannejlgiaaQ39
import Derived.Test.YtiieoannejlgiaaQ40
namespace Go.Proofs.Ytiieoannejlgiaa.Pure
open Go.RowKit Go.Proofs.Ytiieoannejlgiaa.Q Go.Proofs.Ytiieoannejlgiaa.Ring Go.Proofs.YtiieoannejlgiaaW.PrintWords Go.Proofs.YtiieoannejlgiaaW.PrintLast
theorem FnExactParcelMarks : laws_FnExactParcelMarks.Pure := by
  intro l hm _
  refine ⟨2000010, ?_⟩
  unfold laws_FnExactParcelMarks.f
  rw [szPointS_eq l hm]
  simp only [Option.bind_some]
  by_cases h1 : l.length ≤ 1048576
  · rw [if_pos h1, if_neg (by omega), toPointS_eq _ l (by omega) h1]
    simp only [Option.bind_some]
    have hb : ∀ k, 1100000 < k → ∃ r, spec_ParcelMarks.f k (l.map toPt) = some r ∧ impl_ParcelMarks.f k (l.map toPt) = some r ∧ r.1.length ≤ 12 := fun k hk => ⟨_, specMarks_eq (by simpa using h1) k (by simp; omega), implMarks_eq (by simpa using h1) k (by simp; omega), marksR_len _⟩
    obtain ⟨w, e1, e2, hlen⟩ := hb 2000010 (by omega)
    rw [e1, e2]
    simp only [Option.bind_some]
    have hsame : impl_ParcelMarks.f 2000008 (l.map toPt) = some w := by
      obtain ⟨w', e1', e2', _⟩ := hb 2000008 (by omega)
      have m1 := impl_ParcelMarks.mono (l.map toPt) 2000008
      have m2 := impl_ParcelMarks.mono (l.map toPt) 2000009
      have q1 := m1 _ e2'
      have q2 := m2 _ q1
      rw [e2] at q2
      rw [e2', ← q2]
    have hj2 : laws_FnExactParcelMarks.j2 (2000007 + 1) (ascP 1 w.1.length) (1 + 2 * (w.1.length : Int)) false = some true := by
      simp only [laws_FnExactParcelMarks.j2]
      rw [if_neg (by simp), heldPointS_eq _ _ (by omega) (by omega)]
      simp only [Option.bind_some]
      rw [if_neg (by omega), if_pos trivial]
    have hj1 : laws_FnExactParcelMarks.j1 (2000008 + 1) l w.1 w.2 w.1 false = some true := by
      simp only [laws_FnExactParcelMarks.j1]
      rw [if_neg (by simp), markPointS_eq _ _ (by omega) (by omega)]
      simp only [Option.bind_some]
      rw [heldPointS_eq _ _ (by omega) (by omega)]
      simp only [Option.bind_some]
      rw [if_neg (by omega), if_pos trivial, toPointS_eq _ l (by omega) h1]
      simp only [Option.bind_some]
      rw [hsame]
      simp only [Option.bind_some]
      rw [eqPointS_self _ _ (by omega) (by omega)]
      simp only [Option.bind_some, if_true, bne_self_eq_false]
      exact hj2
    have hj0 : laws_FnExactParcelMarks.j0 (2000009 + 1) l w.1 w.2 (l.map toPt) w.1 w.2 false = some true := by
      simp only [laws_FnExactParcelMarks.j0]
      rw [if_neg (by simp), toPointS_eq _ l (by omega) h1]
      simp only [Option.bind_some]
      rw [eqPointS_self _ _ (by simp; omega) (by simp; omega)]
      simp only [Option.bind_some, if_true]
      rw [markPointS_eq _ _ (by simp; omega) (by simp; omega)]
      simp only [Option.bind_some]
      rw [if_neg (by omega), eqPointS_self _ _ (by omega) (by omega)]
      simp only [Option.bind_some, if_true, bne_self_eq_false]
      exact hj1
    rw [eqPointS_self _ _ (by omega) (by omega)]
    simp only [Option.bind_some, if_true, bne_self_eq_false]
    exact hj0
  · rw [if_neg h1, if_pos (by omega)]
end Go.Proofs.Ytiieoannejlgiaa.Pure
