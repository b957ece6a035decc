/- Which lists of corners are parcels: the program and the reference. -/
import Derived.Test.YtiieoannejlgiaaAreaL
import Derived.Test.YtiieoannejlgiaaRingOf
import Derived.Test.YtiieoannejlgiaaQ20
import Derived.Test.YtiieoannejlgiaaQ26
import Derived.Test.YtiieoannejlgiaaQ27
namespace Go.Proofs.Ytiieoannejlgiaa.Pure
open Go.RowKit Go.Proofs.Ytiieoannejlgiaa.Q Go.Proofs.Ytiieoannejlgiaa.Ring Go.Proofs.YtiieoannejlgiaaW.PrintWords Go.Proofs.YtiieoannejlgiaaW.PrintLast
theorem okP_cv {l : List Pt} (c : okP l = true) : cvB l = true := by
  unfold okP at c
  have := ((Bool.and_eq_true _ _).mp c).1
  unfold okS at this
  exact ((Bool.and_eq_true _ _).mp this).1
theorem implPValid_eq (l : List Pt) : impl_ParcelValid.f l = some (okP l) := by unfold impl_ParcelValid.f; cases okP l <;> rfl
theorem specPValid_eq {l : List Pt} (h : l.length ≤ 1048576) (k : Nat) (hk : l.length < k) : spec_ParcelValid.f k l = some (okP l) := by
  unfold spec_ParcelValid.f
  rw [show spec_PolyValid.f l = some (okS l) from if_pos h]
  simp only [Option.bind_some]
  unfold okP
  by_cases c : okS l = true
  · rw [if_pos c, spec_l31Area.f, show spec_l31Area.l0 k l 0 0 = some (areaS l l.length) from Area_l0 h l.length 0 k (by omega) hk, c]
    rfl
  · rw [if_neg c, Bool.eq_false_iff.2 c]; rfl
end Go.Proofs.Ytiieoannejlgiaa.Pure
