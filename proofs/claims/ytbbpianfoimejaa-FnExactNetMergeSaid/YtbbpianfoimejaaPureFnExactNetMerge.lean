/- The program's NetMerge and the reference's answer the same, for all arguments; its result shares no memory. -/
import Derived.Test.YtbbpianfoimejaaRuns
import Derived.Test.YtbbpianfoimejaaMergeE
import Derived.Test.YtbbpianfoimejaaMarkRuns
import Derived.Test.YtbbpianfoimejaaQ25
namespace Go.Proofs.Ytbbpianfoimejaa.Pure
open Go.RowKit Go.Proofs.Ytbbpianfoimejaa.Q Go.Proofs.YtbbpianfoimejaaW.PrintWords Go.Proofs.YtbbpianfoimejaaW.PrintLast
theorem mrR_len (n : Int) (l : List Run) (k : Int) : (MergeW.mrR n l k).2.1.length ≤ l.length := by
  unfold MergeW.mrR
  split
  · exact MergeW.mgs_len _ _ _
  · simp
theorem FnExactNetMerge : laws_FnExactNetMerge.Pure := by
  intro n l k0 _ hm _ _
  refine ⟨2000010, ?_⟩
  unfold laws_FnExactNetMerge.f
  rw [szRunS_eq l hm]
  simp only [Option.bind_some]
  by_cases h1 : l.length ≤ 1048576
  · rw [if_pos h1, if_neg (by omega), toRunS_eq _ l (by omega) h1]
    simp only [Option.bind_some]
    have hlen := mrR_len n (l.map toRun) k0
    rw [List.length_map] at hlen
    have ei : impl_NetMerge.f n (l.map toRun) k0 = some (MergeW.mrR n (l.map toRun) k0) := rfl
    have es : spec_NetMerge.f n (l.map toRun) k0 = some (MergeW.mrR n (l.map toRun) k0) := rfl
    generalize hw : MergeW.mrR n (l.map toRun) k0 = w at *
    rw [es, ei]
    simp only [Option.bind_some]
    have hj2 : laws_FnExactNetMerge.j2 (2000007 + 1) (ascR 1 w.2.1.length) (1 + 4 * (w.2.1.length : Int)) false = some true := by
      simp only [laws_FnExactNetMerge.j2]
      rw [if_neg (by simp), heldRunS_eq _ _ (by omega) (by omega)]
      simp only [Option.bind_some]
      rw [if_neg (by omega), if_pos trivial]
    have hj1 : laws_FnExactNetMerge.j1 (2000008 + 1) n l k0 w.1 w.2.1 w.2.2 w.2.1 false = some true := by
      simp only [laws_FnExactNetMerge.j1]
      rw [if_neg (by simp), markRunS_eq _ _ (by omega) (by omega)]
      simp only [Option.bind_some]
      rw [heldRunS_eq _ _ (by omega) (by omega)]
      simp only [Option.bind_some]
      rw [if_neg (by omega), if_pos trivial, toRunS_eq _ l (by omega) h1]
      simp only [Option.bind_some]
      rw [ei]
      simp only [Option.bind_some, if_true]
      rw [eqRunS_self _ _ (by omega) (by omega)]
      simp only [Option.bind_some, if_true, bne_self_eq_false]
      exact hj2
    have hj0 : laws_FnExactNetMerge.j0 (2000009 + 1) n l k0 w.1 w.2.1 w.2.2 (l.map toRun) w.1 w.2.1 w.2.2 false = some true := by
      simp only [laws_FnExactNetMerge.j0]
      rw [if_neg (by simp), toRunS_eq _ l (by omega) h1]
      simp only [Option.bind_some]
      rw [eqRunS_self _ _ (by simp; omega) (by simp; omega)]
      simp only [Option.bind_some, if_true]
      rw [markRunS_eq _ _ (by simp; omega) (by simp; omega)]
      simp only [Option.bind_some, if_true]
      rw [if_neg (by omega), eqRunS_self _ _ (by omega) (by omega)]
      simp only [Option.bind_some, if_true, bne_self_eq_false]
      exact hj1
    rw [if_pos trivial, eqRunS_self _ _ (by omega) (by omega)]
    simp only [Option.bind_some, if_true, bne_self_eq_false]
    exact hj0
  · rw [if_neg h1, if_pos (by omega)]
end Go.Proofs.Ytbbpianfoimejaa.Pure
