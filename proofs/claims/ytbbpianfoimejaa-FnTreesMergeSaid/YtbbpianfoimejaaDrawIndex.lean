/- The draw of an index never fails. -/
import Derived.Test.YtbbpianfoimejaaReader
import Derived.Test.YtbbpianfoimejaaQ28
namespace Go.Proofs.Ytbbpianfoimejaa.Pure
open Go.RowKit Go.Proofs.Ytbbpianfoimejaa.Q Go.Proofs.YtbbpianfoimejaaW.PrintWords Go.Proofs.YtbbpianfoimejaaW.PrintLast Go.Proofs.YtbbpianfoimejaaW.PrintMore
theorem l91Index_ok (k : Nat) {b : List Int} (hb : Bts b) {p m : Int} (hp : 0 ≤ p ∧ p ≤ 1000) (hm : 0 ≤ m ∧ m ≤ 1000) : ∃ i q, spec_l91Index.f (k + 2) b p m = some (i, q) ∧ p ≤ q ∧ q ≤ p + 2 ∧ -1 ≤ i ∧ i ≤ m := by
  have hj : ∀ (x : Bool) (p' : Int), 0 ≤ p' ∧ p' ≤ 1001 → (x = false → 1 ≤ m) → ∃ i q, spec_l91Index.j0 (k + 2) m x b p' = some (i, q) ∧ p' ≤ q ∧ q ≤ p' + 1 ∧ -1 ≤ i ∧ i ≤ m := by
    intro x p' hp' hx
    rw [spec_l91Index.j0]
    cases x with
    | true =>
      rw [if_pos rfl]
      obtain ⟨v1, e1, v10, v11⟩ := pick_ok k hb (p := p') (n := 2) (by omega) (by omega)
      simp only [e1, Option.bind_some]
      rw [if_pos v10, if_pos (by simp; omega)]
      refine ⟨_, _, rfl, by omega, by omega, ?_⟩
      have : v1 = 0 ∨ v1 = 1 := by omega
      rcases this with rfl | rfl <;> simp [rd] <;> omega
    | false =>
      have := hx rfl
      rw [if_neg (by simp)]
      obtain ⟨v1, e1, v10, v11⟩ := pick_ok k hb (p := p') (n := m) (by omega) (by omega)
      simp only [e1, Option.bind_some]
      exact ⟨_, _, rfl, by omega, by omega, by omega, by omega⟩
  unfold spec_l91Index.f
  by_cases h : m = 0
  · rw [if_pos h]
    obtain ⟨i, q, e, q0, q1, h0, h1⟩ := hj true p (by omega) (fun z => by cases z)
    exact ⟨i, q, e, by omega, by omega, h0, h1⟩
  · rw [if_neg h]
    obtain ⟨v1, e1, v10, v11⟩ := pick_ok (k + 1) hb (p := p) (n := 20) (by omega) (by omega)
    simp only [e1, Option.bind_some]
    obtain ⟨i, q, e, q0, q1, h0, h1⟩ := hj (v1 == 0) (p + 1) (by omega) (fun _ => by omega)
    exact ⟨i, q, e, by omega, by omega, h0, h1⟩
end Go.Proofs.Ytbbpianfoimejaa.Pure
