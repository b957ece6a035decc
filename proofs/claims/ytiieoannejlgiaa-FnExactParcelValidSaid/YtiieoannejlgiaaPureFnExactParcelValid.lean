/- The program's ParcelValid and the reference's answer the same, for all arguments. -/
import Derived.Test.YtiieoannejlgiaaPolyPts
import Derived.Test.YtiieoannejlgiaaAreaL
import Derived.Test.YtiieoannejlgiaaQ20
import Derived.Test.YtiieoannejlgiaaQ26
import Derived.Test.YtiieoannejlgiaaQ27
import Derived.Test.YtiieoannejlgiaaQ28
namespace Go.Proofs.Ytiieoannejlgiaa.Pure
open Go.RowKit Go.Proofs.Ytiieoannejlgiaa.Q Go.Proofs.Ytiieoannejlgiaa.Ring Go.Proofs.YtiieoannejlgiaaW.PrintWords Go.Proofs.YtiieoannejlgiaaW.PrintLast
theorem implPValid_eq (l : List Pt) : impl_ParcelValid.f l = some (okP l) := by unfold impl_ParcelValid.f; cases okP l <;> rfl
theorem specPValid_eq {l : List Pt} (h : l.length ≤ 1048576) (k : Nat) (hk : l.length < k) : spec_ParcelValid.f k l = some (okP l) := by
  unfold spec_ParcelValid.f
  rw [show spec_PolyValid.f l = some (okS l) from if_pos h]
  simp only [Option.bind_some]
  unfold okP
  by_cases c : okS l = true
  · rw [if_pos c, spec_l31Area.f, show spec_l31Area.l0 k l 0 0 = some (areaS l l.length) from Area_l0 h l.length 0 k (by omega) hk, c]
    rfl
  · rw [if_neg c, Bool.eq_false_iff.2 c]; rfl
theorem FnExactParcelValid : laws_FnExactParcelValid.Pure := by
  intro l hm _
  refine ⟨2000010, ?_⟩
  unfold laws_FnExactParcelValid.f
  rw [szPointS_eq l hm]
  simp only [Option.bind_some]
  by_cases h1 : l.length ≤ 1048576
  · rw [if_pos h1, if_neg (by omega), toPointS_eq _ l (by omega) h1]
    simp only [Option.bind_some]
    rw [specPValid_eq (l := l.map toPt) (by simpa using h1) _ (by simp; omega), implPValid_eq]
    simp only [Option.bind_some, bne_self_eq_false, Bool.false_eq_true, if_false]
    rw [eqPointS_self _ _ (by simp; omega) (by simp; omega)]
    rfl
  · rw [if_neg h1, if_pos (by omega)]
end Go.Proofs.Ytiieoannejlgiaa.Pure
