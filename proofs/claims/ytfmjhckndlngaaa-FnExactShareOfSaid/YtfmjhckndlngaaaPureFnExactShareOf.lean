/- The program's ShareOf and the reference's answer the same, for all arguments; its result shares no memory. -/
import Derived.Test.YtfmjhckndlngaaaSpecShare
import Derived.Test.YtfmjhckndlngaaaMarkInts
import Derived.Test.YtfmjhckndlngaaaQ11
import Derived.Test.YtfmjhckndlngaaaQ12
namespace Go.Proofs.Ytfmjhckndlngaaa.Pure
open Go.RowKit Go.Proofs.Ytfmjhckndlngaaa.Q Go.Proofs.YtfmjhckndlngaaaW.PrintWords Go.Proofs.YtfmjhckndlngaaaW.PrintLast
theorem shR_len (l : List Int) (a : Int) : (shR l a).1.length ≤ l.length := by
  unfold shR
  split
  · show (pickN _ _ _).length ≤ _; rw [pickN_length]; simp [fl]
  · simp
theorem FnExactShareOf : laws_FnExactShareOf.Pure := by
  intro l a _ _ _ _
  refine ⟨4000010, ?_⟩
  unfold laws_FnExactShareOf.f
  by_cases h1 : l.length ≤ 1048576
  · rw [if_neg (by omega), toIntS_eq _ l (by omega) h1]
    simp only [Option.bind_some]
    rw [spec_ShareOf_eq _ _ _ (by omega) h1]
    simp only [Option.bind_some, impl_ShareOf.f]
    have hlen := shR_len l a
    generalize hw : shR l a = w at *
    have hj2 : laws_FnExactShareOf.j2 (4000007 + 1) (asc 1 w.1.length) (1 + (w.1.length : Int)) false = some true := by
      simp only [laws_FnExactShareOf.j2]
      rw [if_neg (by simp), heldIntS_eq _ _ (by omega) (by omega)]
      simp only [Option.bind_some]
      rw [if_neg (by omega), if_pos trivial]
    have hj1 : laws_FnExactShareOf.j1 (4000008 + 1) l a w.1 w.2 w.1 false = some true := by
      simp only [laws_FnExactShareOf.j1]
      rw [if_neg (by simp), markIntS_eq _ _ (by omega) (by omega)]
      simp only [Option.bind_some]
      rw [heldIntS_eq _ _ (by omega) (by omega)]
      simp only [Option.bind_some]
      rw [if_neg (by omega), if_pos trivial, toIntS_eq _ l (by omega) h1]
      simp only [Option.bind_some, impl_ShareOf.f]
      rw [hw, eqIntS_self _ _ (by omega) (by omega)]
      simp only [Option.bind_some, if_true, bne_self_eq_false]
      exact hj2
    have hj0 : laws_FnExactShareOf.j0 (4000009 + 1) l a w.1 w.2 l w.1 w.2 false = some true := by
      simp only [laws_FnExactShareOf.j0]
      rw [if_neg (by simp), toIntS_eq _ l (by omega) h1]
      simp only [Option.bind_some]
      rw [eqIntS_self _ _ (by omega) (by omega)]
      simp only [Option.bind_some, if_true]
      rw [markIntS_eq _ _ (by omega) (by omega)]
      simp only [Option.bind_some]
      rw [if_neg (by omega), eqIntS_self _ _ (by omega) (by omega)]
      simp only [Option.bind_some, if_true, bne_self_eq_false]
      exact hj1
    rw [eqIntS_self _ _ (by omega) (by omega)]
    simp only [Option.bind_some, if_true, bne_self_eq_false]
    exact hj0
  · rw [if_pos (by omega)]
end Go.Proofs.Ytfmjhckndlngaaa.Pure
