/- What the draws of points answer: they never fail. -/
import Derived.Test.YtgdhgncdpmalcaaReader
import Derived.Test.YtgdhgncdpmalcaaQ7
namespace Go.Proofs.Ytgdhgncdpmalcaa.Pure
open Go.RowKit Go.Proofs.Ytgdhgncdpmalcaa.Q Go.Proofs.YtgdhgncdpmalcaaW.PrintWords Go.Proofs.YtgdhgncdpmalcaaW.PrintLast Go.Proofs.YtgdhgncdpmalcaaW.PrintMore

theorem l91Point_ok (k : Nat) {b : List Int} {p : Int} (hb : Bts b) (hp : 0 ≤ p ∧ p ≤ 100000) :
    ∃ x y q, spec_l91Point.f (k + 1) b p = some (x, y, q) ∧ p ≤ q ∧ q ≤ p + 5 ∧ -10001 ≤ x ∧ x ≤ 10001 ∧ -10001 ≤ y ∧ y ≤ 10001 := by
  unfold spec_l91Point.f
  obtain ⟨v1, h1, _, _⟩ := pick_ok k hb (p := p) (n := 13) (by omega) (by omega)
  obtain ⟨v2, h2, _, _⟩ := pick_ok k hb (p := p + 1) (n := 13) (by omega) (by omega)
  obtain ⟨v3, h3, _, _⟩ := pick_ok k hb (p := p + 1 + 1) (n := 40) (by omega) (by omega)
  rw [h1]; simp only [Option.bind_some]
  rw [h2]; simp only [Option.bind_some]
  rw [h3]; simp only [Option.bind_some]
  rw [rw64 (x := v1 - 6) (by omega) (by omega), rw64 (x := v2 - 6) (by omega) (by omega)]
  by_cases e0 : v3 = 0
  · rw [if_pos e0]
    obtain ⟨v4, h4, _, _⟩ := pick_ok k hb (p := p + 1 + 1 + 1) (n := 3) (by omega) (by omega)
    rw [h4]; simp only [Option.bind_some]
    rw [if_pos (by omega), if_pos (by simp; omega)]
    refine ⟨_, _, _, rfl, by omega, by omega, ?_⟩
    have : v4 = 0 ∨ v4 = 1 ∨ v4 = 2 := by omega
    rcases this with rfl | rfl | rfl <;> refine ⟨by decide, by decide, by omega, by omega⟩
  · rw [if_neg e0]
    by_cases e1 : v3 = 1
    · rw [if_pos e1]
      obtain ⟨v4, h4, _, _⟩ := pick_ok k hb (p := p + 1 + 1 + 1) (n := 200) (by omega) (by omega)
      obtain ⟨v5, h5, _, _⟩ := pick_ok k hb (p := p + 1 + 1 + 1 + 1) (n := 200) (by omega) (by omega)
      rw [h4]; simp only [Option.bind_some]
      rw [h5]; simp only [Option.bind_some]
      rw [rw64 (x := v4 * 50) (by omega) (by omega), rw64 (x := v5 * 50) (by omega) (by omega), rw64 (x := v4 * 50 - 5000) (by omega) (by omega), rw64 (x := v5 * 50 - 5000) (by omega) (by omega)]
      exact ⟨_, _, _, rfl, by omega, by omega, by omega, by omega, by omega, by omega⟩
    · rw [if_neg e1]
      exact ⟨_, _, _, rfl, by omega, by omega, by omega, by omega, by omega, by omega⟩

end Go.Proofs.Ytgdhgncdpmalcaa.Pure
