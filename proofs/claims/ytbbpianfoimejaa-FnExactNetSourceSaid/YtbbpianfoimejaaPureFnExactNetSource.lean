/- The program's NetSource and the reference's answer the same, for all arguments; its result shares no memory. -/
import Derived.Test.YtbbpianfoimejaaNetSource
import Derived.Test.YtbbpianfoimejaaMarkRuns
import Derived.Test.YtbbpianfoimejaaMarkInts
import Derived.Test.YtbbpianfoimejaaQ22
namespace Go.Proofs.Ytbbpianfoimejaa.Pure
open Go.RowKit Go.Proofs.Ytbbpianfoimejaa.Q Go.Proofs.YtbbpianfoimejaaW.PrintWords Go.Proofs.YtbbpianfoimejaaW.PrintLast
theorem FnExactNetSource : laws_FnExactNetSource.Pure := by
  intro n l _ hm _
  refine ⟨2000010, ?_⟩
  unfold laws_FnExactNetSource.f
  rw [szRunS_eq l hm]
  simp only [Option.bind_some]
  by_cases h1 : l.length ≤ 1048576
  · rw [if_pos h1, if_neg (by omega), toRunS_eq _ l (by omega) h1]
    simp only [Option.bind_some]
    rw [spec_NetSource_eq _ _ _ (by omega), impl_NetSource_eq _ _ _ (by omega)]
    simp only [Option.bind_some]
    have hlen := sourceR_length n (l.map toRun)
    generalize hw : sourceR n (l.map toRun) = w at *
    have hj2 : laws_FnExactNetSource.j2 (2000007 + 1) (asc 1 w.1.length) (1 + (w.1.length : Int)) false = some true := by
      simp only [laws_FnExactNetSource.j2]
      rw [if_neg (by simp), heldIntS_eq _ _ (by omega) (by omega)]
      simp only [Option.bind_some]
      rw [if_neg (by omega), if_pos trivial]
    have hj1 : laws_FnExactNetSource.j1 (2000008 + 1) n l w.1 w.2 w.1 false = some true := by
      simp only [laws_FnExactNetSource.j1]
      rw [if_neg (by simp), markIntS_eq _ _ (by omega) (by omega)]
      simp only [Option.bind_some]
      rw [heldIntS_eq _ _ (by omega) (by omega)]
      simp only [Option.bind_some]
      rw [if_neg (by omega), if_pos trivial, toRunS_eq _ l (by omega) h1]
      simp only [Option.bind_some]
      rw [impl_NetSource_eq _ _ _ (by omega), hw]
      simp only [Option.bind_some]
      rw [eqIntS_self _ _ (by omega) (by omega)]
      simp only [Option.bind_some, if_true, bne_self_eq_false]
      exact hj2
    have hj0 : laws_FnExactNetSource.j0 (2000009 + 1) n l w.1 w.2 (l.map toRun) w.1 w.2 false = some true := by
      simp only [laws_FnExactNetSource.j0]
      rw [if_neg (by simp), toRunS_eq _ l (by omega) h1]
      simp only [Option.bind_some]
      rw [eqRunS_self _ _ (by simp; omega) (by simp; omega)]
      simp only [Option.bind_some, if_true]
      rw [markRunS_eq _ _ (by simp; omega) (by simp; omega)]
      simp only [Option.bind_some]
      rw [if_neg (by omega), eqIntS_self _ _ (by omega) (by omega)]
      simp only [Option.bind_some, if_true, bne_self_eq_false]
      exact hj1
    rw [eqIntS_self _ _ (by omega) (by omega)]
    simp only [Option.bind_some, if_true, bne_self_eq_false]
    exact hj0
  · rw [if_neg h1, if_pos (by omega)]
end Go.Proofs.Ytbbpianfoimejaa.Pure
