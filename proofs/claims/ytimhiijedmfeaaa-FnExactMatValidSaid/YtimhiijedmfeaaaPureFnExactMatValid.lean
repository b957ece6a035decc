/- The program's MatValid and the reference's answer the same, for all arguments. -/
import Derived.Test.YtimhiijedmfeaaaMats
import Derived.Test.YtimhiijedmfeaaaQ8
namespace Go.Proofs.Ytimhiijedmfeaaa.Pure
open Go.RowKit Go.Proofs.Ytimhiijedmfeaaa.Q Go.Proofs.YtimhiijedmfeaaaW.PrintWords Go.Proofs.YtimhiijedmfeaaaW.PrintLast
theorem FnExactMatValid : laws_FnExactMatValid.Pure := by
  intro l hm hr
  refine ⟨4000000, ?_⟩
  unfold laws_FnExactMatValid.f
  obtain ⟨c, hc, hq⟩ := szIntSS_ok 4000000 l (by omega) hm (fun r h => (hr r h).1)
  rw [hc]
  simp only [Option.bind_some]
  by_cases h : c < 0
  · rw [if_pos h]
  · have ht := hq (by omega)
    have htl := tot_len l
    rw [if_neg h, toIntSS_eq _ l ht (by omega)]
    simp only [Option.bind_some]
    rw [spec_MatValid_eq _ l ht (by omega), impl_MatValid_eq _ l (by omega) (fun r h => by have := tot_mem h; omega)]
    simp only [Option.bind_some]
    rw [if_neg (by simp), eqIntSS_self _ l ht (by omega)]
    simp
end Go.Proofs.Ytimhiijedmfeaaa.Pure
