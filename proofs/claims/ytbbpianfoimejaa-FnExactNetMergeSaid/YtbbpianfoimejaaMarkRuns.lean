/- Closed form of heldRunS. -/
import Derived.Test.YtbbpianfoimejaaMarkRunsM
import Derived.Test.YtbbpianfoimejaaQ2
namespace Go.Proofs.Ytbbpianfoimejaa.Pure
open Go.RowKit Go.Proofs.Ytbbpianfoimejaa.Q Go.Proofs.YtbbpianfoimejaaW.PrintWords Go.Proofs.YtbbpianfoimejaaW.PrintLast Go.Proofs.YtbbpianfoimejaaW.PrintMore
theorem heldRunS_l0 (n : Nat) : ∀ (pre : List Run) (a : Int) (k : Nat), n < k → pre.length + n < 4611686018427387904 → 0 ≤ a → a + 4 * n < 4611686018427387904 →
    laws_heldRunS.l0 k (pre ++ ascR a n) a (pre.length : Int) = some (a + 4 * n) := by
  induction n with
  | zero =>
    intro pre a k hk _ _ _
    obtain ⟨k, rfl⟩ : ∃ m, k = m + 1 := ⟨k - 1, by omega⟩
    simp [laws_heldRunS.l0, ascR]
  | succ n ih =>
    intro pre a k hk hl h0 h1
    obtain ⟨k, rfl⟩ : ∃ m, k = m + 1 := ⟨k - 1, by omega⟩
    rw [show ascR a (n + 1) = (⟨a, a + 1, a + 2, a + 3⟩ : Run) :: ascR (a + 4) n from rfl]
    simp only [laws_heldRunS.l0]
    rw [if_pos (len_midR _ _ _), if_pos (by omega), rd_midR, nw64 (x := a + 1) (by omega) (by omega), nw64 (x := a + 1 + 1) (by omega) (by omega), nw64 (x := a + 1 + 1 + 1) (by omega) (by omega), nw64 (x := a + 1 + 1 + 1 + 1) (by omega) (by omega)]
    rw [if_pos rfl, if_pos rfl, if_pos (by simp; omega), if_pos (by simp; omega), next_midR pre _ (by omega), app_midR pre _ _, show a + 1 + 1 + 1 + 1 = a + 4 by omega, ih (pre ++ [_]) (a + 4) k (by omega) (by simp; omega) (by omega) (by omega)]
    congr 1
    omega
theorem heldRunS_eq (k n : Nat) (hk : n < k) (hl : n ≤ 1000000000) : laws_heldRunS.f k (ascR 1 n) 1 = some (1 + 4 * (n : Int)) := by
  have := heldRunS_l0 n [] 1 k hk (by simp; omega) (by omega) (by omega)
  simpa [laws_heldRunS.f] using this
end Go.Proofs.Ytbbpianfoimejaa.Pure
