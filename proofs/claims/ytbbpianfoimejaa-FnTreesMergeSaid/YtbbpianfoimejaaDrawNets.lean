/- The draw of a net never fails. -/
import Derived.Test.YtbbpianfoimejaaReader
import Derived.Test.YtbbpianfoimejaaRunsN
import Derived.Test.YtbbpianfoimejaaQ27
namespace Go.Proofs.Ytbbpianfoimejaa.Pure
open Go.RowKit Go.Proofs.Ytbbpianfoimejaa.Q Go.Proofs.YtbbpianfoimejaaW.PrintWords Go.Proofs.YtbbpianfoimejaaW.PrintLast Go.Proofs.YtbbpianfoimejaaW.PrintMore

theorem l91Net_j3 (k : Nat) {b : List Int} (hb : Bts b) {n p : Int} {x : List Run} (hp : 0 ≤ p ∧ p ≤ 1000) : ∃ x' q, spec_l91Net.j3 (k + 2) n x b p = some (n, x', q) ∧ p ≤ q ∧ q ≤ p + 2 ∧ x'.length = x.length := by
  rw [spec_l91Net.j3]
  by_cases h : (x.length : Int) > 0
  · rw [if_pos h]
    obtain ⟨v1, e1, v10, v11⟩ := pick_ok k hb (p := p) (n := 50) (by omega) (by omega)
    obtain ⟨v2, e2, v20, v21⟩ := pick_ok k hb (p := p + 1) (n := 2) (by omega) (by omega)
    simp only [e1, e2, Option.bind_some]
    by_cases c0 : v1 = 0
    · rw [if_pos c0, if_pos (by omega)]; exact ⟨_, _, rfl, by omega, by omega, by simp⟩
    · rw [if_neg c0]
      by_cases c1 : v1 = 1
      · rw [if_pos c1, if_pos (by omega), if_pos (by simp; omega), if_pos (by omega)]; exact ⟨_, _, rfl, by omega, by omega, by simp⟩
      · rw [if_neg c1]
        by_cases c2 : v1 = 2
        · rw [if_pos c2, if_pos (by omega)]; exact ⟨_, _, rfl, by omega, by omega, by simp⟩
        · rw [if_neg c2]
          by_cases c3 : v1 = 3
          · rw [if_pos c3, if_pos (by omega)]; exact ⟨_, _, rfl, by omega, by omega, by simp⟩
          · rw [if_neg c3]; exact ⟨_, _, rfl, by omega, by omega, rfl⟩
  · rw [if_neg h]; exact ⟨_, _, rfl, by omega, by omega, rfl⟩
theorem l91Net_l2 {b : List Int} (hb : Bts b) {n : Int} (m : Nat) : ∀ (x : List Run) (i p : Int) (k : Nat), (x.length : Int) - i = m → 0 ≤ i → x.length ≤ 20 → 0 ≤ p → p + m ≤ 900 → m + 3 < k →
    ∃ x' q, spec_l91Net.l2 k n x i b p = some (n, x', q) ∧ p ≤ q ∧ q ≤ p + m + 4 ∧ x'.length = x.length := by
  induction m with
  | zero =>
    intro x i p k hm hi hx hp hp' hk
    obtain ⟨k, rfl⟩ : ∃ j, k = j + 3 := ⟨k - 3, by omega⟩
    rw [spec_l91Net.l2, if_neg (by omega)]
    by_cases h : (x.length : Int) > 1
    · rw [if_pos h]
      obtain ⟨v1, e1, v10, v11⟩ := pick_ok (k + 1) hb (p := p) (n := x.length) (by omega) (by omega)
      simp only [e1, Option.bind_some]
      rw [if_pos (by omega), if_pos v10, if_pos v11]
      obtain ⟨x', q, e, q0, q1, hl⟩ := l91Net_j3 k hb (n := n) (p := p + 1) (x := ((x.set (0 : Int).toNat (⟨(rd_T46 x v1).f0, (rd_T46 x v1).f1, (rd_T46 x v1).f2, (rd_T46 x v1).f3⟩ : Run)).set (v1 : Int).toNat (⟨(rd_T46 x 0).f0, (rd_T46 x 0).f1, (rd_T46 x 0).f2, (rd_T46 x 0).f3⟩ : Run))) (by omega)
      exact ⟨x', q, e, by omega, by omega, by rw [hl]; simp⟩
    · rw [if_neg h]
      obtain ⟨x', q, e, q0, q1, hl⟩ := l91Net_j3 k hb (n := n) (p := p) (x := x) (by omega)
      exact ⟨x', q, e, by omega, by omega, hl⟩
  | succ m ih =>
    intro x i p k hm hi hx hp hp' hk
    obtain ⟨k, rfl⟩ : ∃ j, k = j + 2 := ⟨k - 2, by omega⟩
    rw [spec_l91Net.l2, if_pos (by omega)]
    obtain ⟨v1, e1, v10, v11⟩ := pick_ok k hb (p := p) (n := 3) (by omega) (by omega)
    simp only [e1, Option.bind_some]
    rw [rw64 (x := i + 1) (by omega) (by omega)]
    by_cases c : v1 = 0
    · rw [if_pos c, if_pos hi]
      obtain ⟨x', q, e, q0, q1, hl⟩ := ih (x.set (i : Int).toNat (⟨(rd_T46 x i).f1, (rd_T46 x i).f0, wrap64 (-((rd_T46 x i).f2)), (rd_T46 x i).f3⟩ : Run)) (i + 1) (p + 1) (k + 1) (by simp; omega) (by omega) (by simp; omega) (by omega) (by omega) (by omega)
      exact ⟨x', q, e, by omega, by omega, by rw [hl]; simp⟩
    · rw [if_neg c]
      obtain ⟨x', q, e, q0, q1, hl⟩ := ih x (i + 1) (p + 1) (k + 1) (by omega) (by omega) (by omega) (by omega) (by omega) (by omega)
      exact ⟨x', q, e, by omega, by omega, hl⟩
theorem l91Net_l1 {b : List Int} (hb : Bts b) {n : Int} (hn : 2 ≤ n ∧ n ≤ 6) (m : Nat) : ∀ (x : List Run) (c i p : Int) (k : Nat), c - i = m → 0 ≤ i → c ≤ 4 → x.length + m ≤ 20 → 0 ≤ p → p + 4 * m ≤ 400 → m + 40 < k →
    ∃ x' q, spec_l91Net.l1 k n x c i b p = some (n, x', q) ∧ p ≤ q ∧ q ≤ p + 4 * m + 30 ∧ x'.length ≤ 20 := by
  induction m with
  | zero =>
    intro x c i p k hm hi hc hx hp hp' hk
    obtain ⟨k, rfl⟩ : ∃ j, k = j + 1 := ⟨k - 1, by omega⟩
    rw [spec_l91Net.l1, if_neg (by omega)]
    obtain ⟨x', q, e, q0, q1, hl⟩ := l91Net_l2 hb (n := n) x.length x 0 p k (by omega) (by omega) (by omega) (by omega) (by omega) (by omega)
    exact ⟨x', q, e, by omega, by omega, by omega⟩
  | succ m ih =>
    intro x c i p k hm hi hc hx hp hp' hk
    obtain ⟨k, rfl⟩ : ∃ j, k = j + 2 := ⟨k - 2, by omega⟩
    rw [spec_l91Net.l1, if_pos (by omega), rw64 (x := n - 1) (by omega) (by omega)]
    obtain ⟨v1, e1, v10, v11⟩ := pick_ok k hb (p := p) (n := n) (by omega) (by omega)
    obtain ⟨v2, e2, v20, v21⟩ := pick_ok k hb (p := p + 1) (n := n - 1) (by omega) (by omega)
    obtain ⟨v3, e3, v30, v31⟩ := pick_ok k hb (p := p + 1 + 1) (n := 61) (by omega) (by omega)
    obtain ⟨v4, e4, v40, v41⟩ := pick_ok k hb (p := p + 1 + 1 + 1) (n := 4) (by omega) (by omega)
    simp only [e1, e2, e3, e4, Option.bind_some]
    rw [if_neg (by omega), if_pos (by omega), rw64 (x := i + 1) (by omega) (by omega)]
    obtain ⟨x', q, e, q0, q1, hl⟩ := ih (x ++ [(⟨v1, Int.tmod (wrap64 ((wrap64 (v1 + 1)) + v2)) n, wrap64 (v3 - 30), wrap64 (1 + v4)⟩ : Run)]) c (i + 1) (p + 1 + 1 + 1 + 1) (k + 1) (by omega) (by omega) hc (by simp; omega) (by omega) (by omega) (by omega)
    exact ⟨x', q, e, by omega, by omega, hl⟩
theorem l91Net_l0 {b : List Int} (hb : Bts b) {n : Int} (hn : 2 ≤ n ∧ n ≤ 6) (m : Nat) : ∀ (x : List Run) (i p : Int) (k : Nat), n - i = m → 1 ≤ i → x.length + m ≤ 10 → 0 ≤ p → p + 4 * m ≤ 300 → m + 60 < k →
    ∃ x' q, spec_l91Net.l0 k n x i b p = some (n, x', q) ∧ p ≤ q ∧ q ≤ p + 4 * m + 60 ∧ x'.length ≤ 20 := by
  induction m with
  | zero =>
    intro x i p k hm hi hx hp hp' hk
    obtain ⟨k, rfl⟩ : ∃ j, k = j + 2 := ⟨k - 2, by omega⟩
    rw [spec_l91Net.l0, if_neg (by omega)]
    obtain ⟨v1, e1, v10, v11⟩ := pick_ok k hb (p := p) (n := 4) (by omega) (by omega)
    simp only [e1, Option.bind_some]
    obtain ⟨x', q, e, q0, q1, hl⟩ := l91Net_l1 hb hn v1.toNat x v1 0 (p + 1) (k + 1) (by omega) (by omega) (by omega) (by omega) (by omega) (by omega) (by omega)
    exact ⟨x', q, e, by omega, by omega, by omega⟩
  | succ m ih =>
    intro x i p k hm hi hx hp hp' hk
    obtain ⟨k, rfl⟩ : ∃ j, k = j + 2 := ⟨k - 2, by omega⟩
    rw [spec_l91Net.l0, if_pos (by omega), rw64 (x := i + 1) (by omega) (by omega)]
    obtain ⟨v1, e1, v10, v11⟩ := pick_ok k hb (p := p) (n := 12) (by omega) (by omega)
    obtain ⟨v2, e2, v20, v21⟩ := pick_ok k hb (p := p + 1) (n := i) (by omega) (by omega)
    obtain ⟨v3, e3, v30, v31⟩ := pick_ok k hb (p := p + 1 + 1) (n := 61) (by omega) (by omega)
    obtain ⟨v4, e4, v40, v41⟩ := pick_ok k hb (p := p + 1 + 1 + 1) (n := 4) (by omega) (by omega)
    simp only [e1, e2, e3, e4, Option.bind_some]
    by_cases c : v1 > 0
    · rw [if_pos c, if_pos (by omega)]
      obtain ⟨x', q, e, q0, q1, hl⟩ := ih (x ++ [(⟨v2, i, wrap64 (v3 - 30), wrap64 (1 + v4)⟩ : Run)]) (i + 1) (p + 1 + 1 + 1 + 1) (k + 1) (by omega) (by omega) (by simp; omega) (by omega) (by omega) (by omega)
      exact ⟨x', q, e, by omega, by omega, hl⟩
    · rw [if_neg c]
      obtain ⟨x', q, e, q0, q1, hl⟩ := ih x (i + 1) (p + 1) (k + 1) (by omega) (by omega) (by omega) (by omega) (by omega) (by omega)
      exact ⟨x', q, e, by omega, by omega, hl⟩
theorem l91Net_ok (k : Nat) {b : List Int} (hb : Bts b) {p m : Int} (hp : 0 ≤ p ∧ p ≤ 200) (hm : 2 ≤ m ∧ m ≤ 6) (hk : 100 < k) : ∃ n x q, spec_l91Net.f k b p m = some (n, x, q) ∧ p ≤ q ∧ q ≤ p + 100 ∧ x.length ≤ 20 ∧ 2 ≤ n ∧ n ≤ m := by
  obtain ⟨k, rfl⟩ : ∃ j, k = j + 1 := ⟨k - 1, by omega⟩
  unfold spec_l91Net.f
  rw [rw64 (x := m - 1) (by omega) (by omega)]
  obtain ⟨v1, e1, v10, v11⟩ := pick_ok k hb (p := p) (n := m - 1) (by omega) (by omega)
  simp only [e1, Option.bind_some]
  rw [rw64 (x := 2 + v1) (by omega) (by omega)]
  obtain ⟨x, q, e, q0, q1, hl⟩ := l91Net_l0 hb (n := 2 + v1) (by omega) (1 + v1).toNat [] 1 (p + 1) (k + 1) (by omega) (by omega) (by simp; omega) (by omega) (by omega) (by omega)
  exact ⟨_, x, q, e, by omega, by omega, hl, by omega, by omega⟩
end Go.Proofs.Ytbbpianfoimejaa.Pure
