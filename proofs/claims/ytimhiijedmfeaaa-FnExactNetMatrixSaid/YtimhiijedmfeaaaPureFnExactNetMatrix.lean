/- The program's NetMatrix and the reference's answer the same, for all arguments; its result shares no memory. -/
import Derived.Test.YtimhiijedmfeaaaNetMatS
import Derived.Test.YtimhiijedmfeaaaRuns
import Derived.Test.YtimhiijedmfeaaaMarkRunsM
import Derived.Test.YtimhiijedmfeaaaMarkMats
import Derived.Test.YtimhiijedmfeaaaQ24
import Derived.Test.YtimhiijedmfeaaaQ30
import Derived.Test.YtimhiijedmfeaaaQ34
namespace Go.Proofs.Ytimhiijedmfeaaa.Pure
open Go.RowKit Go.Proofs.Ytimhiijedmfeaaa.Q Go.Proofs.YtimhiijedmfeaaaW.PrintWords Go.Proofs.YtimhiijedmfeaaaW.PrintLast
theorem tot_bd (B : Nat) (l : List (List Int)) (h : ∀ r ∈ l, r.length ≤ B) : tot l ≤ (B + 1) * l.length := by
  induction l with
  | nil => simp [tot]
  | cons r l ih =>
    rw [tot_cons, List.length_cons, Nat.mul_succ]
    have := ih (fun x hx => h x (List.mem_cons_of_mem _ hx))
    have := h r List.mem_cons_self
    omega
theorem matrixR_tot (n : Int) (l : List Run) : tot (matrixR n l).1 ≤ 30 := by
  unfold matrixR
  by_cases h : nvB n l = true
  · have hv := nvB_iff.1 h
    rw [if_pos h]
    have := tot_bd 5 ((List.range (n.toNat - 1)).map (matRow n.toNat l)) (fun r hr => by
      obtain ⟨q, _, rfl⟩ := List.mem_map.1 hr
      unfold matRow
      rw [tab_length]; omega)
    simp only [List.length_map, List.length_range] at this
    show tot ((List.range (n.toNat - 1)).map (matRow n.toNat l)) ≤ 30
    omega
  · rw [if_neg h]; simp [tot]
theorem FnExactNetMatrix : laws_FnExactNetMatrix.Pure := by
  intro n l _ hm _
  refine ⟨_, szRunS_eq l hm, fun h => ⟨4000000, ?_⟩⟩
  by_cases h1 : l.length ≤ 1048576
  · have htt := matrixR_tot n (l.map toRun)
    exact ⟨l.map toRun, (matrixR n (l.map toRun)).1, (matrixR n (l.map toRun)).2, 1 + 4 * ((l.map toRun).length : Int), 1 + (cnt (matrixR n (l.map toRun)).1 : Int), ascR 1 (l.map toRun).length, ascS 1 (matrixR n (l.map toRun)).1,
      toRunS_eq _ l (by omega) h1, spec_NetMatrix_eq _ _ _ (by omega), impl_NetMatrix_eq _ _ _ (by omega), eqIntSS_self _ _ (by omega) (by omega), eqRunS_self _ _ (by simp; omega) (by simp; omega),
      markRunS_eq _ _ (by simp; omega) (by simp; omega), by omega, markIntSS_eq _ _ (by omega) (by omega), (ascS_length _ _).symm, heldIntSS_eq _ _ (by omega) (by omega), by omega⟩
  · rw [if_neg h1] at h; omega
end Go.Proofs.Ytimhiijedmfeaaa.Pure
