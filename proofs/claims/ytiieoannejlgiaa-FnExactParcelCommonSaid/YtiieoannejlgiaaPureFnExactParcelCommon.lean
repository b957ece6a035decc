/- The program's ParcelCommon and the reference's answer the same, for all arguments. -/
import Derived.Test.YtiieoannejlgiaaPolyPts
import Derived.Test.YtiieoannejlgiaaCommonL
import Derived.Test.YtiieoannejlgiaaQ36
import Derived.Test.YtiieoannejlgiaaQ37
import Derived.Test.YtiieoannejlgiaaQ38
namespace Go.Proofs.Ytiieoannejlgiaa.Pure
open Go.RowKit Go.Proofs.Ytiieoannejlgiaa.Q Go.Proofs.Ytiieoannejlgiaa.Ring Go.Proofs.YtiieoannejlgiaaW.PrintWords Go.Proofs.YtiieoannejlgiaaW.PrintLast
theorem FnExactParcelCommon : laws_FnExactParcelCommon.Pure := by
  intro l m hl _ hm _
  refine ⟨4000010, ?_⟩
  unfold laws_FnExactParcelCommon.f
  rw [szPointS_eq l hl]
  simp only [Option.bind_some]
  by_cases h1 : l.length ≤ 1048576
  · rw [if_pos h1, if_neg (by omega)]
    have hz : laws_szPointS.f m (1048576 - (l.length : Int)) = some (if l.length + m.length ≤ 1048576 then 1048576 - (l.length : Int) - (m.length : Int) else -1) := by
      unfold maxLen at hm
      unfold laws_szPointS.f
      rw [pw64 (by omega) (by omega)]
      by_cases q : l.length + m.length ≤ 1048576
      · rw [if_neg (by omega), if_pos q]
      · rw [if_pos (by omega), if_neg q]
    rw [hz]
    simp only [Option.bind_some]
    by_cases h2 : l.length + m.length ≤ 1048576
    · rw [if_pos h2, if_neg (by omega), toPointS_eq _ l (by omega) h1, toPointS_eq _ m (by omega) (by omega)]
      simp only [Option.bind_some]
      rw [specCommon_eq (l := l.map toPt) (m := m.map toPt) (by simpa using h1) (by simp; omega) _ (by simp; omega), implCommon_eq]
      simp only [Option.bind_some, if_true]
      rw [eqPointS_self _ _ (by simp; omega) (by simp; omega)]
      simp only [Option.bind_some, if_true]
      rw [eqPointS_self _ _ (by simp; omega) (by simp; omega)]
      rfl
    · rw [if_neg h2, if_pos (by omega)]
  · rw [if_neg h1, if_pos (by omega)]
end Go.Proofs.Ytiieoannejlgiaa.Pure
