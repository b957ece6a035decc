/- What the draws of three points answer: they never fail. -/
import Derived.Test.YteoajklibkilmaaDrawPoints
import Derived.Test.YteoajklibkilmaaQ28
namespace Go.Proofs.Yteoajklibkilmaa.Pure
open Go.RowKit Go.Proofs.Yteoajklibkilmaa.Q Go.Proofs.YteoajklibkilmaaW.PrintWords Go.Proofs.YteoajklibkilmaaW.PrintLast Go.Proofs.YteoajklibkilmaaW.PrintMore

theorem l91Three_ok (k : Nat) {b : List Int} {p : Int} (hb : Bts b) (hp : 0 ≤ p ∧ p ≤ 10000) :
    ∃ x1 y1 x2 y2 x3 y3 q, spec_l91Three.f (k + 1) b p = some (x1, y1, x2, y2, x3, y3, q) := by
  unfold spec_l91Three.f
  obtain ⟨x1, y1, q1, h1, _, _, _⟩ := l91Point_ok k hb (p := p) (by omega)
  rw [h1]; simp only [Option.bind_some]
  obtain ⟨x2, y2, q2, h2, _, _, _⟩ := l91Point_ok k hb (p := q1) (by omega)
  rw [h2]; simp only [Option.bind_some]
  obtain ⟨v, h3, _, _⟩ := pick_ok k hb (p := q2) (n := 2) (by omega) (by omega)
  rw [h3]; simp only [Option.bind_some]
  by_cases e : v = 0
  · rw [if_pos e]
    obtain ⟨v2, h4, _, _⟩ := pick_ok k hb (p := q2 + 1) (n := 5) (by omega) (by omega)
    rw [h4]; exact ⟨_, _, _, _, _, _, _, rfl⟩
  · rw [if_neg e]
    obtain ⟨x3, y3, q3, h4, _⟩ := l91Point_ok k hb (p := q2 + 1) (by omega)
    rw [h4]; exact ⟨_, _, _, _, _, _, _, rfl⟩
end Go.Proofs.Yteoajklibkilmaa.Pure
