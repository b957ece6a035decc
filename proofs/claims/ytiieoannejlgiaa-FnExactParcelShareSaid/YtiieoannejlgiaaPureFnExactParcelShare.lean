/- The program's ParcelShare and the reference's answer the same, for all arguments. -/
import Derived.Test.YtiieoannejlgiaaPolyPts
import Derived.Test.YtiieoannejlgiaaShareL
import Derived.Test.YtiieoannejlgiaaQ53
import Derived.Test.YtiieoannejlgiaaQ55
import Derived.Test.YtiieoannejlgiaaQ56
import Derived.Test.YtiieoannejlgiaaQ6
namespace Go.Proofs.Ytiieoannejlgiaa.Pure
open Go.RowKit Go.Proofs.Ytiieoannejlgiaa.Q Go.Proofs.Ytiieoannejlgiaa.Ring Go.Proofs.YtiieoannejlgiaaW.PrintWords Go.Proofs.YtiieoannejlgiaaW.PrintLast
theorem FnExactParcelShare : laws_FnExactParcelShare.Pure := by
 intro l a b hm _ ha hb
 have ha' : -9223372036854775808 ≤ a ∧ a ≤ 9223372036854775807 := by have h := ha; simp [Lit.wf] at h; exact ⟨h.1, h.2⟩
 have hb' : -9223372036854775808 ≤ b ∧ b ≤ 9223372036854775807 := by have h := hb; simp [Lit.wf] at h; exact ⟨h.1, h.2⟩
 refine ⟨40000000010, ?_⟩
 unfold laws_FnExactParcelShare.f
 rw [szPointS_eq l hm]
 simp only [Option.bind_some]
 by_cases h1 : l.length ≤ 1048576
 ·rw [if_pos h1, if_neg (by omega), toPointS_eq _ l (by omega) h1]
  simp only [Option.bind_some]
  rw [specShare_eq (l := l.map toPt) (by simpa using h1) ha' hb' _ (by omega), implShare_eq _ (by omega)]
  simp only [Option.bind_some, laws_eqQuo.f, if_true, bne_self_eq_false]
  simp only [laws_FnExactParcelShare.j0]
  rw [if_neg (by simp), toPointS_eq _ l (by omega) h1]
  simp only [Option.bind_some]
  rw [eqPointS_self _ _ (by simp; omega) (by simp; omega)]
  rfl
 ·rw [if_neg h1, if_pos (by omega)]
end Go.Proofs.Ytiieoannejlgiaa.Pure
