/- The draw of lengths, an amount and shares never fails. -/
import Derived.Test.YtfmjhckndlngaaaReader
import Derived.Test.YtfmjhckndlngaaaSpecShare
import Derived.Test.YtfmjhckndlngaaaQ17
import Derived.Test.YtfmjhckndlngaaaQ18
import Derived.Test.YtfmjhckndlngaaaQ19
namespace Go.Proofs.Ytfmjhckndlngaaa.Pure
open Go.RowKit Go.Proofs.Ytfmjhckndlngaaa.Q Go.Proofs.YtfmjhckndlngaaaW.PrintWords Go.Proofs.YtfmjhckndlngaaaW.PrintLast Go.Proofs.YtfmjhckndlngaaaW.PrintMore

theorem l91Lengths_l0 {b : List Int} (hb : Bts b) (m : Nat) : ∀ (x3 : List Int) (x4 x5 p : Int) (k : Nat), x4 - x5 = m → x3.length = x5 → 1 ≤ x4 → x4 ≤ 6 → 0 ≤ p → p + 10 * m ≤ 1000 → m + 3 < k →
    ∃ l q, spec_l91Lengths.l0 k x3 x4 x5 b p = some (l, q) ∧ p ≤ q ∧ q ≤ p + m + 4 ∧ l.length ≤ 6 := by
  induction m with
  | zero =>
    intro x3 x4 x5 p k h hl h1 h6 hp hp' hk
    obtain ⟨k, rfl⟩ : ∃ j, k = j + 1 := ⟨k - 1, by omega⟩
    obtain ⟨k, rfl⟩ : ∃ j, k = j + 1 := ⟨k - 1, by omega⟩
    simp only [spec_l91Lengths.l0]
    rw [if_neg (by omega)]
    obtain ⟨v1, e1, v10, v11⟩ := pick_ok k hb (p := p) (n := x4) (by omega) (by omega)
    obtain ⟨v2, e2, v20, v21⟩ := pick_ok k hb (p := p + 1) (n := 5) (by omega) (by omega)
    obtain ⟨v3, e3, v30, v31⟩ := pick_ok k hb (p := p + 1 + 1) (n := 40) (by omega) (by omega)
    obtain ⟨v4, e4, v40, v41⟩ := pick_ok k hb (p := p + 1 + 1 + 1) (n := 2) (by omega) (by omega)
    simp only [e1, e2, e3, e4, Option.bind_some]
    rw [if_pos v10, if_pos (by omega)]
    by_cases c0 : v3 = 0
    · rw [if_pos c0, if_pos v40, if_pos (by simp; omega), if_pos (by omega)]
      exact ⟨_, _, rfl, by omega, by omega, by simp; omega⟩
    · rw [if_neg c0]
      by_cases c1 : v3 = 1
      · rw [if_pos c1, if_pos (by omega), if_pos (by omega)]
        exact ⟨_, _, rfl, by omega, by omega, by simp; omega⟩
      · rw [if_neg c1]
        by_cases c2 : v3 = 2
        · rw [if_pos c2]; exact ⟨_, _, rfl, by omega, by omega, by simp⟩
        · rw [if_neg c2]; exact ⟨_, _, rfl, by omega, by omega, by simp; omega⟩
  | succ m ih =>
    intro x3 x4 x5 p k h hl h1 h6 hp hp' hk
    obtain ⟨k, rfl⟩ : ∃ j, k = j + 1 := ⟨k - 1, by omega⟩
    obtain ⟨k', rfl⟩ : ∃ j, k = j + 1 := ⟨k - 1, by omega⟩
    rw [spec_l91Lengths.l0]
    rw [if_pos (by omega)]
    obtain ⟨v1, e1, v10, v11⟩ := pick_ok k' hb (p := p) (n := 9) (by omega) (by omega)
    simp only [e1, Option.bind_some]
    rw [if_pos (by omega), sw64 (x := x5 + 1) (by omega) (by omega)]
    obtain ⟨l, q, e, q0, q1, hl6⟩ := ih (x3 ++ [v1]) x4 (x5 + 1) (p + 1) (k' + 1) (by omega) (by simp; omega) h1 h6 (by omega) (by omega) (by omega)
    exact ⟨l, q, e, by omega, by omega, hl6⟩
theorem l91Lengths_ok (k : Nat) {b : List Int} (hb : Bts b) {p : Int} (hp : 0 ≤ p ∧ p ≤ 100) (hk : 20 < k) : ∃ l q, spec_l91Lengths.f k b p = some (l, q) ∧ p ≤ q ∧ q ≤ p + 20 ∧ l.length ≤ 6 := by
  obtain ⟨k, rfl⟩ : ∃ j, k = j + 1 := ⟨k - 1, by omega⟩
  unfold spec_l91Lengths.f
  obtain ⟨v1, e1, v10, v11⟩ := pick_ok k hb (p := p) (n := 6) (by omega) (by omega)
  simp only [e1, Option.bind_some]
  rw [sw64 (x := 1 + v1) (by omega) (by omega)]
  obtain ⟨l, q, e, q0, q1, hl6⟩ := l91Lengths_l0 hb (1 + v1).toNat [] (1 + v1) 0 (p + 1) (k + 1) (by omega) rfl (by omega) (by omega) (by omega) (by omega) (by omega)
  exact ⟨l, q, e, by omega, by omega, hl6⟩
theorem l91Amount_ok (k : Nat) {b : List Int} (hb : Bts b) {p : Int} (hp : 0 ≤ p ∧ p ≤ 1000) : ∃ a q, spec_l91Amount.f (k + 1) b p = some (a, q) ∧ p ≤ q ∧ q ≤ p + 2 := by
  unfold spec_l91Amount.f
  obtain ⟨v1, e1, v10, v11⟩ := pick_ok k hb (p := p) (n := 24) (by omega) (by omega)
  obtain ⟨v2, e2, v20, v21⟩ := pick_ok k hb (p := p + 1) (n := 3) (by omega) (by omega)
  obtain ⟨v3, e3, v30, v31⟩ := pick_ok k hb (p := p + 1) (n := 121) (by omega) (by omega)
  simp only [e1, e2, e3, Option.bind_some]
  by_cases c : v1 = 0
  · rw [if_pos c, if_pos v20, if_pos (by simp; omega)]; exact ⟨_, _, rfl, by omega, by omega⟩
  · rw [if_neg c]; exact ⟨_, _, rfl, by omega, by omega⟩
theorem shR_length (l : List Int) (a : Int) : (shR l a).2 = true → (shR l a).1.length = l.length := by
  unfold shR
  split
  · intro _; show (pickN _ _ _).length = _; rw [pickN_length]; simp [fl]
  · intro h; cases h
theorem DrawShareOk_ok (k : Nat) (hk : 300 < k) {bs : List Int} (hbs : ∀ x ∈ bs, (Lit.int .u8 x).wf = true) : ∃ l a s, spec_DrawShareOk.f k bs = some (l, a, s) ∧ l.length ≤ 6 ∧ s.length = l.length := by
  obtain ⟨k, rfl⟩ : ∃ j, k = j + 1 := ⟨k - 1, by omega⟩
  obtain ⟨k', rfl⟩ : ∃ j, k = j + 1 := ⟨k - 1, by omega⟩
  unfold spec_DrawShareOk.f
  obtain ⟨b, h0, hb⟩ := open_ok hbs
  rw [h0]; simp only [Option.bind_some]
  obtain ⟨l, q1, e1, q10, q11, hl⟩ := l91Lengths_ok (k' + 1 + 1) hb (p := 0) (by omega) (by omega)
  rw [e1]; simp only [Option.bind_some]
  obtain ⟨a, q2, e2, q20, q21⟩ := l91Amount_ok (k' + 1) hb (p := q1) (by omega)
  rw [e2]; simp only [Option.bind_some]
  rw [spec_ShareOf_eq _ _ _ (by omega) (by omega)]; simp only [Option.bind_some]
  by_cases hs : (shR l a).2 = true
  · have hlen := shR_length l a hs
    rw [if_pos hs]
    have hj : ∀ (x36 : Bool) (p : Int), 0 ≤ p ∧ p ≤ 1000 → (x36 = true → 1 < (shR l a).1.length) → ∃ l' a' s', spec_DrawShareOk.j0 (k' + 1 + 1) l a (shR l a).1 x36 b p = some (l', a', s') ∧ l'.length ≤ 6 ∧ s'.length = l'.length := by
      intro x36 p hp hx
      simp only [spec_DrawShareOk.j0]
      cases x36 with
      | false => rw [if_neg (by simp)]; exact ⟨_, _, _, rfl, hl, hlen⟩
      | true =>
        have h1 := hx rfl
        obtain ⟨v1, e1, v10, v11⟩ := pick_ok k' hb (p := p) (n := 3) (by omega) (by omega)
        obtain ⟨v2, e2, v20, v21⟩ := pick_ok k' hb (p := p + 1) (n := 3) (by omega) (by omega)
        rw [if_pos rfl, if_pos (by omega)]
        simp only [e1, e2, Option.bind_some]
        rw [if_pos (by omega)]
        exact ⟨_, _, _, rfl, hl, by simp; exact hlen⟩
    by_cases h1 : ((shR l a).1.length : Int) > 1
    · rw [if_pos h1]
      obtain ⟨v1, e1, v10, v11⟩ := pick_ok (k' + 1) hb (p := q2) (n := 2) (by omega) (by omega)
      simp only [e1, Option.bind_some]
      exact hj _ _ (by omega) (fun _ => by omega)
    · rw [if_neg h1]
      exact hj _ _ (by omega) (fun h => by cases h)
  · rw [if_neg hs, if_pos (by omega), if_pos (by omega)]
    exact ⟨_, _, _, rfl, hl, by simp⟩
end Go.Proofs.Ytfmjhckndlngaaa.Pure
