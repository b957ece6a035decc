/- What the draws of points answer: they never fail. -/
import Derived.Test.YteoajklibkilmaaReader
import Derived.Test.YteoajklibkilmaaQ29
import Derived.Test.YteoajklibkilmaaQ30
import Derived.Test.YteoajklibkilmaaQ31
namespace Go.Proofs.Yteoajklibkilmaa.Pure
open Go.RowKit Go.Proofs.Yteoajklibkilmaa.Q Go.Proofs.YteoajklibkilmaaW.PrintWords Go.Proofs.YteoajklibkilmaaW.PrintLast Go.Proofs.YteoajklibkilmaaW.PrintMore

theorem l91Point_ok (k : Nat) {b : List Int} {p : Int} (hb : Bts b) (hp : 0 ≤ p ∧ p ≤ 100000) :
    ∃ x y q, spec_l91Point.f (k + 1) b p = some (x, y, q) ∧ p ≤ q ∧ q ≤ p + 5 ∧ -10001 ≤ x ∧ x ≤ 10001 ∧ -10001 ≤ y ∧ y ≤ 10001 := by
  unfold spec_l91Point.f
  obtain ⟨v1, h1, _, _⟩ := pick_ok k hb (p := p) (n := 13) (by omega) (by omega)
  obtain ⟨v2, h2, _, _⟩ := pick_ok k hb (p := p + 1) (n := 13) (by omega) (by omega)
  obtain ⟨v3, h3, _, _⟩ := pick_ok k hb (p := p + 1 + 1) (n := 40) (by omega) (by omega)
  rw [h1]; simp only [Option.bind_some]
  rw [h2]; simp only [Option.bind_some]
  rw [h3]; simp only [Option.bind_some]
  rw [rw64 (x := v1 - 6) (by omega) (by omega), rw64 (x := v2 - 6) (by omega) (by omega)]
  by_cases e0 : v3 = 0
  · rw [if_pos e0]
    obtain ⟨v4, h4, _, _⟩ := pick_ok k hb (p := p + 1 + 1 + 1) (n := 3) (by omega) (by omega)
    rw [h4]; simp only [Option.bind_some]
    rw [if_pos (by omega), if_pos (by simp; omega)]
    refine ⟨_, _, _, rfl, by omega, by omega, ?_⟩
    have : v4 = 0 ∨ v4 = 1 ∨ v4 = 2 := by omega
    rcases this with rfl | rfl | rfl <;> refine ⟨by decide, by decide, by omega, by omega⟩
  · rw [if_neg e0]
    by_cases e1 : v3 = 1
    · rw [if_pos e1]
      obtain ⟨v4, h4, _, _⟩ := pick_ok k hb (p := p + 1 + 1 + 1) (n := 200) (by omega) (by omega)
      obtain ⟨v5, h5, _, _⟩ := pick_ok k hb (p := p + 1 + 1 + 1 + 1) (n := 200) (by omega) (by omega)
      rw [h4]; simp only [Option.bind_some]
      rw [h5]; simp only [Option.bind_some]
      rw [rw64 (x := v4 * 50) (by omega) (by omega), rw64 (x := v5 * 50) (by omega) (by omega), rw64 (x := v4 * 50 - 5000) (by omega) (by omega), rw64 (x := v5 * 50 - 5000) (by omega) (by omega)]
      exact ⟨_, _, _, rfl, by omega, by omega, by omega, by omega, by omega, by omega⟩
    · rw [if_neg e1]
      exact ⟨_, _, _, rfl, by omega, by omega, by omega, by omega, by omega, by omega⟩

theorem DrawPointStep_ok (k : Nat) {l : List Int} (hl : ∀ x ∈ l, (Lit.int .u8 x).wf = true) : ∃ a b c d, spec_DrawPointStep.f (k + 1) l = some (a, b, c, d) := by
  unfold spec_DrawPointStep.f
  obtain ⟨b, h0, hb⟩ := open_ok hl
  rw [h0]; simp only [Option.bind_some]
  obtain ⟨x1, y1, q1, h1, _, _, _⟩ := l91Point_ok k hb (p := 0) (by omega)
  rw [h1]; simp only [Option.bind_some]
  obtain ⟨x2, y2, q2, h2, _⟩ := l91Point_ok k hb (p := q1) (by omega)
  rw [h2]; simp only [Option.bind_some]
  exact ⟨_, _, _, _, rfl⟩
theorem DrawPointFar_ok (k : Nat) {l : List Int} (hl : ∀ x ∈ l, (Lit.int .u8 x).wf = true) : ∃ a b c d, spec_DrawPointFar.f (k + 1) l = some (a, b, c, d) := by
  unfold spec_DrawPointFar.f
  obtain ⟨a, b, c, d, h⟩ := DrawPointStep_ok k hl
  rw [h]; exact ⟨_, _, _, _, rfl⟩
end Go.Proofs.Yteoajklibkilmaa.Pure
