/- The program's MatApply and the reference's answer the same, for all arguments; its result shares no memory. -/
import Derived.Test.YtimhiijedmfeaaaMarkMats
import Derived.Test.YtimhiijedmfeaaaMatApply
import Derived.Test.YtimhiijedmfeaaaQ12
namespace Go.Proofs.Ytimhiijedmfeaaa.Pure
open Go.RowKit Go.Proofs.Ytimhiijedmfeaaa.Q Go.Proofs.YtimhiijedmfeaaaW.PrintWords Go.Proofs.YtimhiijedmfeaaaW.PrintLast
theorem FnExactMatApply : laws_FnExactMatApply.Pure := by
  intro l0 l1 hm0 hr0 _ _ _ hL
  obtain ⟨c, hc, hq⟩ := szIntSS_ok 4000000 l0 (by omega) hm0 (fun r h => (hr0 r h).1)
  refine ⟨4000000, c, hc, fun h => ?_⟩
  have t0 := hq (by omega)
  have n0 := tot_len l0
  have c0 := cnt_tot l0
  have hrow : ∀ r ∈ l0, r.length ≤ 1048576 := fun r h => by have := tot_mem h; omega
  have ha := applyR_length l0 l1
  exact ⟨(applyR l0 l1).1, (applyR l0 l1).2, 1 + (cnt l0 : Int), 1 + (cnt l0 : Int) + l1.length, 1 + ((applyR l0 l1).1.length : Int), ascS 1 l0, asc (1 + (cnt l0 : Int)) l1.length, asc 1 (applyR l0 l1).1.length, toIntSS_eq _ l0 t0 (by omega), toIntS_eq _ l1 (by omega) (by omega),
    spec_MatApply_eq _ _ _ t0 (by omega), impl_MatApply_eq _ _ _ (by omega) hrow (by omega), eqIntS_self _ _ (by omega) (by omega), eqIntSS_self _ l0 t0 (by omega), eqIntS_self _ l1 (by omega) (by omega), markIntSS_eq _ l0 t0 (by omega), markIntS_at _ l1 _ (by omega) (by omega) (by omega) (by omega), by omega,
    markIntS_eq _ _ (by omega) (by omega), (asc_length _ _).symm, heldIntS_eq _ _ (by omega) (by omega), by omega⟩
end Go.Proofs.Ytimhiijedmfeaaa.Pure
