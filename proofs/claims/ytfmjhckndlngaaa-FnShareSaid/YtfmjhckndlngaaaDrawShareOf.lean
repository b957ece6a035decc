/- The draw of lengths and an amount never fails. -/
import Derived.Test.YtfmjhckndlngaaaDrawShares
import Derived.Test.YtfmjhckndlngaaaQ22
namespace Go.Proofs.Ytfmjhckndlngaaa.Pure
open Go.RowKit Go.Proofs.Ytfmjhckndlngaaa.Q Go.Proofs.YtfmjhckndlngaaaW.PrintWords Go.Proofs.YtfmjhckndlngaaaW.PrintLast Go.Proofs.YtfmjhckndlngaaaW.PrintMore
theorem DrawShareOf_ok (k : Nat) (hk : 300 < k) {bs : List Int} (hbs : ∀ x ∈ bs, (Lit.int .u8 x).wf = true) : ∃ l a, spec_DrawShareOf.f k bs = some (l, a) ∧ l.length ≤ 6 := by
  obtain ⟨k, rfl⟩ : ∃ j, k = j + 1 := ⟨k - 1, by omega⟩
  obtain ⟨k', rfl⟩ : ∃ j, k = j + 1 := ⟨k - 1, by omega⟩
  unfold spec_DrawShareOf.f
  obtain ⟨b, h0, hb⟩ := open_ok hbs
  rw [h0]; simp only [Option.bind_some]
  obtain ⟨l, q1, e1, q10, q11, hl⟩ := l91Lengths_ok (k' + 1 + 1) hb (p := 0) (by omega) (by omega)
  rw [e1]; simp only [Option.bind_some]
  obtain ⟨a, q2, e2, q20, q21⟩ := l91Amount_ok (k' + 1) hb (p := q1) (by omega)
  rw [e2]; simp only [Option.bind_some]
  exact ⟨l, a, rfl, hl⟩
end Go.Proofs.Ytfmjhckndlngaaa.Pure
