/- The program's ShareRises and the reference's answer the same, for all arguments; its result shares no memory. -/
import Derived.Test.YtfmjhckndlngaaaRisesL
import Derived.Test.YtfmjhckndlngaaaMarkInts
import Derived.Test.YtfmjhckndlngaaaQ15
namespace Go.Proofs.Ytfmjhckndlngaaa.Pure
open Go.RowKit Go.Proofs.Ytfmjhckndlngaaa.Q Go.Proofs.YtfmjhckndlngaaaW.PrintWords Go.Proofs.YtfmjhckndlngaaaW.PrintLast
theorem FnExactShareRises : laws_FnExactShareRises.Pure := by
  intro l h _ _ _ _ _ _
  refine ⟨4000010, ?_⟩
  unfold laws_FnExactShareRises.f
  by_cases h1 : l.length ≤ 1048576
  · by_cases h2 : h.length ≤ 1048576
    · rw [if_neg (by omega), if_neg (by omega), toIntS_eq _ l (by omega) h1]
      simp only [Option.bind_some]
      rw [toIntS_eq _ h (by omega) h2]
      simp only [Option.bind_some]
      rw [spec_ShareRises_eq _ _ _ (by omega) h1]
      simp only [Option.bind_some]
      rw [impl_ShareRises_eq _ _ _ (by omega) h2]
      simp only [Option.bind_some]
      have hlen := risR_len l h
      generalize hw : risR l h = w at *
      have hj2 : laws_FnExactShareRises.j2 (4000007 + 1) (asc 1 w.1.length) (1 + (w.1.length : Int)) false = some true := by
        simp only [laws_FnExactShareRises.j2]
        rw [if_neg (by simp), heldIntS_eq _ _ (by omega) (by omega)]
        simp only [Option.bind_some]
        rw [if_neg (by omega), if_pos trivial]
      have hj1 : laws_FnExactShareRises.j1 (4000008 + 1) l h w.1 w.2 w.1 false = some true := by
        simp only [laws_FnExactShareRises.j1]
        rw [if_neg (by simp), markIntS_eq _ _ (by omega) (by omega)]
        simp only [Option.bind_some]
        rw [heldIntS_eq _ _ (by omega) (by omega)]
        simp only [Option.bind_some]
        rw [if_neg (by omega), if_pos trivial, toIntS_eq _ l (by omega) h1]
        simp only [Option.bind_some]
        rw [toIntS_eq _ h (by omega) h2]
        simp only [Option.bind_some]
        rw [impl_ShareRises_eq _ _ _ (by omega) h2, hw]
        simp only [Option.bind_some]
        rw [eqIntS_self _ _ (by omega) (by omega)]
        simp only [Option.bind_some, if_true, bne_self_eq_false]
        exact hj2
      have hj0 : laws_FnExactShareRises.j0 (4000009 + 1) l h w.1 w.2 l h w.1 w.2 false = some true := by
        simp only [laws_FnExactShareRises.j0]
        rw [if_neg (by simp), toIntS_eq _ l (by omega) h1]
        simp only [Option.bind_some]
        rw [eqIntS_self _ l (by omega) (by omega)]
        simp only [Option.bind_some, if_true]
        rw [toIntS_eq _ h (by omega) h2]
        simp only [Option.bind_some]
        rw [eqIntS_self _ h (by omega) (by omega)]
        simp only [Option.bind_some, if_true]
        rw [markIntS_eq _ _ (by omega) (by omega)]
        simp only [Option.bind_some]
        obtain ⟨h', hmk⟩ : ∃ h', laws_markIntS.f 4000009 h (1 + (l.length : Int)) = some (1 + (l.length : Int) + h.length, h') := by
          have := markIntS_l0 h [] (1 + (l.length : Int)) 4000009 (by omega) (by simp; omega) (by omega) (by omega)
          exact ⟨_, by simpa [laws_markIntS.f] using this⟩
        rw [hmk]
        simp only [Option.bind_some]
        rw [if_neg (by omega), eqIntS_self _ _ (by omega) (by omega)]
        simp only [Option.bind_some, if_true, bne_self_eq_false]
        exact hj1
      rw [eqIntS_self _ _ (by omega) (by omega)]
      simp only [Option.bind_some, if_true, bne_self_eq_false]
      exact hj0
    · rw [if_neg (by omega), if_pos (by omega)]
  · rw [if_pos (by omega)]
end Go.Proofs.Ytfmjhckndlngaaa.Pure
