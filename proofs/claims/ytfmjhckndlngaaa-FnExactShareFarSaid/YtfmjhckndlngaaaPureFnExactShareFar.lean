/- The program's ShareFar and the reference's answer the same, for all arguments. -/
import Derived.Test.YtfmjhckndlngaaaShares
import Derived.Test.YtfmjhckndlngaaaQ6
namespace Go.Proofs.Ytfmjhckndlngaaa.Pure
open Go.RowKit Go.Proofs.Ytfmjhckndlngaaa.Q Go.Proofs.YtfmjhckndlngaaaW.PrintWords Go.Proofs.YtfmjhckndlngaaaW.PrintLast
theorem FnExactShareFar : laws_FnExactShareFar.Pure := by
  intro l a s _ _ _ _ _ _ _
  refine ⟨4000000, ?_⟩
  unfold laws_FnExactShareFar.f
  by_cases h1 : (l.length : Int) > 1048576
  · rw [if_pos h1]
  · by_cases h2 : (s.length : Int) > 1048576
    · rw [if_neg h1, if_pos h2]
    · rw [if_neg h1, if_neg h2, toIntS_eq _ l (by omega) (by omega), toIntS_eq _ s (by omega) (by omega)]
      simp only [Option.bind_some]
      rw [spec_ShareFar_eq _ _ _ _ (by omega) (by omega), impl_ShareFar_eq _ _ _ _ (by omega)]
      simp only [Option.bind_some, if_true]
      rw [eqIntS_self _ l (by omega) (by omega), eqIntS_self _ s (by omega) (by omega)]
      simp
end Go.Proofs.Ytfmjhckndlngaaa.Pure
