/- What the draws of polygons answer: they never fail, and draw no more than 12 points. -/
import Derived.Test.YtgdhgncdpmalcaaDrawPoints
import Derived.Test.YtgdhgncdpmalcaaBackL
import Derived.Test.YtgdhgncdpmalcaaQ11
import Derived.Test.YtgdhgncdpmalcaaQ8
import Derived.Test.YtgdhgncdpmalcaaQ9
namespace Go.Proofs.Ytgdhgncdpmalcaa.Pure
open Go.RowKit Go.Proofs.Ytgdhgncdpmalcaa.Q Go.Proofs.YtgdhgncdpmalcaaW.PrintWords Go.Proofs.YtgdhgncdpmalcaaW.PrintLast Go.Proofs.YtgdhgncdpmalcaaW.PrintMore
theorem l92Box_ok (k : Nat) {b : List Int} {p : Int} (hb : Bts b) (hp : 0 ≤ p ∧ p ≤ 100000) : ∃ l q, spec_l92Box.f (k + 2) b p = some (l, q) ∧ p ≤ q ∧ q ≤ p + 10 ∧ l.length ≤ 12 := by
  unfold spec_l92Box.f
  obtain ⟨v1, h1, _, _⟩ := pick_ok (k + 1) hb (p := p) (n := 5) (by omega) (by omega)
  obtain ⟨v2, h2, _, _⟩ := pick_ok (k + 1) hb (p := p + 1) (n := 5) (by omega) (by omega)
  obtain ⟨v3, h3, _, _⟩ := pick_ok (k + 1) hb (p := p + 1 + 1) (n := 5) (by omega) (by omega)
  obtain ⟨v4, h4, _, _⟩ := pick_ok (k + 1) hb (p := p + 1 + 1 + 1) (n := 5) (by omega) (by omega)
  rw [h1]; simp only [Option.bind_some]
  rw [h2]; simp only [Option.bind_some]
  rw [h3]; simp only [Option.bind_some]
  rw [h4]; simp only [Option.bind_some]
  have j : ∀ (x y : Int) (l : List Pt) (c : Bool) (r : Int), l.length = 4 → p ≤ r → r ≤ p + 8 → ∃ l' q, spec_l92Box.j0 (k + 2) x y l c b r = some (l', q) ∧ p ≤ q ∧ q ≤ p + 10 ∧ l'.length ≤ 12 := by
    intro x y l c r hl h0 h8
    obtain ⟨v5, h5, _, _⟩ := pick_ok k hb (p := r) (n := 3) (by omega) (by omega)
    cases c
    · rw [spec_l92Box.j0, if_neg (by decide), h5]
      simp only [Option.bind_some]
      by_cases e : v5 = 0
      · rw [if_pos e, if_pos (by omega)]; exact ⟨_, _, rfl, by omega, by omega, by simp; omega⟩
      · rw [if_neg e]; exact ⟨_, _, rfl, by omega, by omega, by omega⟩
    · rw [spec_l92Box.j0, if_pos rfl, Option.bind_some, if_pos (by omega), Option.bind_some, if_pos (by simp; omega), Option.bind_some, h5]
      simp only [Option.bind_some]
      by_cases e : v5 = 0
      · rw [if_pos e, if_pos (by simp; omega)]; exact ⟨_, _, rfl, by omega, by omega, by simp; omega⟩
      · rw [if_neg e]; exact ⟨_, _, rfl, by omega, by omega, by simp; omega⟩
  by_cases e : wrap64 (1 + v3) > 1
  · rw [if_pos e]
    obtain ⟨v5, h5, _, _⟩ := pick_ok (k + 1) hb (p := p + 1 + 1 + 1 + 1) (n := 2) (by omega) (by omega)
    rw [h5]; simp only [Option.bind_some]
    exact j _ _ _ _ _ rfl (by omega) (by omega)
  · rw [if_neg e]
    exact j _ _ _ _ _ rfl (by omega) (by omega)
theorem l92Star_l0 {b : List Int} (hb : Bts b) {s : List Pt} (hs : s.length ≤ 12) (n : Nat) : ∀ (i : Nat) (x : List Pt) (p : Int) (k : Nat), i + n = s.length → n < k → x.length ≤ i → 0 ≤ p → p + 2 * n ≤ 100000 →
    ∃ l q, spec_l92Star.l0 k s x (i : Int) b p = some (l, q) ∧ p ≤ q ∧ q ≤ p + 2 * n ∧ l.length ≤ x.length + n := by
  induction n with
  | zero =>
    intro i x p k hi hk _ _ _
    obtain ⟨k, rfl⟩ : ∃ m, k = m + 1 := ⟨k - 1, by omega⟩
    exact ⟨x, p, by rw [spec_l92Star.l0, if_neg (by omega)], by omega, by omega, by omega⟩
  | succ n ih =>
    intro i x p k hi hk hx h0 hp
    obtain ⟨k, rfl⟩ : ∃ m, k = m + 2 := ⟨k - 2, by omega⟩
    have hw : wrap64 ((i : Int) + 1) = ((i + 1 : Nat) : Int) := by rw [pw64 (by omega) (by omega)]; omega
    rw [spec_l92Star.l0, if_pos (by omega)]
    obtain ⟨v1, h1, _, _⟩ := pick_ok k hb (p := p) (n := 3) (by omega) (by omega)
    by_cases e : Int.tmod (i : Int) 4 = 0
    · rw [if_pos e, h1]
      simp only [Option.bind_some]
      rw [if_pos (by omega), if_pos (by omega), hw]
      obtain ⟨l, q, e1, e2, e3, e4⟩ := ih (i + 1) (x ++ [(⟨wrap64 ((wrap64 (1 + v1)) * ((rd_T32 s (i : Int)).f0)), wrap64 ((wrap64 (1 + v1)) * ((rd_T32 s (i : Int)).f1))⟩ : Pt)]) (p + 1) (k + 1) (by omega) (by omega) (by simp; omega) (by omega) (by omega)
      exact ⟨l, q, e1, by omega, by omega, by simp at e4; omega⟩
    · rw [if_neg e, h1]
      simp only [Option.bind_some]
      by_cases e' : v1 = 0
      · obtain ⟨v2, h2, _, _⟩ := pick_ok k hb (p := p + 1) (n := 3) (by omega) (by omega)
        rw [if_pos e', h2]
        simp only [Option.bind_some]
        rw [if_pos (by omega), if_pos (by omega), hw]
        obtain ⟨l, q, e1, e2, e3, e4⟩ := ih (i + 1) (x ++ [(⟨wrap64 ((wrap64 (1 + v2)) * ((rd_T32 s (i : Int)).f0)), wrap64 ((wrap64 (1 + v2)) * ((rd_T32 s (i : Int)).f1))⟩ : Pt)]) (p + 1 + 1) (k + 1) (by omega) (by omega) (by simp; omega) (by omega) (by omega)
        exact ⟨l, q, e1, by omega, by omega, by simp at e4; omega⟩
      · rw [if_neg e', hw]
        obtain ⟨l, q, e1, e2, e3, e4⟩ := ih (i + 1) x (p + 1) (k + 1) (by omega) (by omega) (by omega) (by omega) (by omega)
        exact ⟨l, q, e1, by omega, by omega, by omega⟩
theorem l92Star_ok (k : Nat) {b : List Int} {p : Int} (hb : Bts b) (hp : 0 ≤ p ∧ p ≤ 10000) : ∃ l q, spec_l92Star.f (k + 20) b p = some (l, q) ∧ p ≤ q ∧ q ≤ p + 24 ∧ l.length ≤ 12 := by
  obtain ⟨l, q, e1, e2, e3, e4⟩ := l92Star_l0 hb (s := [(⟨2, 0⟩ : Pt), (⟨2, 1⟩ : Pt), (⟨1, 2⟩ : Pt), (⟨0, 2⟩ : Pt), (⟨(-1), 2⟩ : Pt), (⟨(-2), 1⟩ : Pt), (⟨(-2), 0⟩ : Pt), (⟨(-2), (-1)⟩ : Pt), (⟨(-1), (-2)⟩ : Pt), (⟨0, (-2)⟩ : Pt), (⟨1, (-2)⟩ : Pt), (⟨2, (-1)⟩ : Pt)]) (by decide) 12 0 [] p (k + 20) rfl (by omega) (by simp) (by omega) (by omega)
  exact ⟨l, q, e1, by omega, by omega, by simpa using e4⟩
theorem l92Poly_l0 {b : List Int} (hb : Bts b) {m : Int} (n : Nat) : ∀ (i : Int) (x : List Pt) (p : Int) (k : Nat), i + n = m → n < k → (x.length : Int) ≤ i → m ≤ 12 → 0 ≤ i → 0 ≤ p → p + 5 * n ≤ 100000 →
    ∃ l q, spec_l92Poly.l0 k x m i b p = some (l, q) ∧ p ≤ q ∧ q ≤ p + 5 * n ∧ l.length ≤ x.length + n := by
  induction n with
  | zero =>
    intro i x p k hi hk _ _ _ _ _
    obtain ⟨k, rfl⟩ : ∃ m, k = m + 1 := ⟨k - 1, by omega⟩
    exact ⟨x, p, by rw [spec_l92Poly.l0, if_neg (by omega)], by omega, by omega, by omega⟩
  | succ n ih =>
    intro i x p k hi hk hx hm hi0 h0 hp
    obtain ⟨k, rfl⟩ : ∃ m, k = m + 2 := ⟨k - 2, by omega⟩
    obtain ⟨u, v, r, h1, h2, h3, _⟩ := l91Point_ok k hb (p := p) (by omega)
    rw [spec_l92Poly.l0, if_pos (by omega), h1]
    simp only [Option.bind_some]
    rw [if_pos (by omega), pw64 (by omega) (by omega)]
    obtain ⟨l, q, e1, e2, e3, e4⟩ := ih (i + 1) (x ++ [(⟨u, v⟩ : Pt)]) r (k + 1) (by omega) (by omega) (by simp; omega) (by omega) (by omega) (by omega) (by omega)
    exact ⟨l, q, e1, by omega, by omega, by simp at e4; omega⟩
theorem backL_length (l : List Pt) : (backL l).length = l.length := by cases l <;> simp [backL]
theorem l92Poly_ok (k : Nat) {b : List Int} {p : Int} (hb : Bts b) (hp : 0 ≤ p ∧ p ≤ 1000) : ∃ l q, spec_l92Poly.f (k + 60) b p = some (l, q) ∧ p ≤ q ∧ q ≤ p + 100 ∧ l.length ≤ 12 := by
  unfold spec_l92Poly.f
  obtain ⟨v1, h1, _, _⟩ := pick_ok (k + 59) hb (p := p) (n := 8) (by omega) (by omega)
  rw [h1]; simp only [Option.bind_some]
  have box : ∃ l q, spec_l92Box.f (k + 60) b (p + 1) = some (l, q) ∧ p + 1 ≤ q ∧ q ≤ p + 1 + 10 ∧ l.length ≤ 12 := l92Box_ok (k + 58) hb (by omega)
  obtain ⟨lb, qb, b1, b2, b3, b4⟩ := box
  by_cases e0 : v1 = 0
  · rw [if_pos e0]
    obtain ⟨v2, h2, _, _⟩ := pick_ok (k + 59) hb (p := p + 1) (n := 6) (by omega) (by omega)
    rw [h2]; simp only [Option.bind_some]
    obtain ⟨l, q, e1, e2, e3, e4⟩ := l92Poly_l0 hb (m := v2) v2.toNat 0 [] (p + 1 + 1) (k + 60) (by omega) (by omega) (by simp) (by omega) (by omega) (by omega) (by omega)
    exact ⟨l, q, e1, by omega, by omega, by simp at e4; omega⟩
  · rw [if_neg e0]
    by_cases e1 : v1 = 1
    · rw [if_pos e1, b1]; exact ⟨_, _, rfl, by omega, by omega, b4⟩
    · rw [if_neg e1]
      by_cases e2 : v1 = 2
      · rw [if_pos e2, b1]; exact ⟨_, _, rfl, by omega, by omega, b4⟩
      · rw [if_neg e2]
        by_cases e3 : v1 = 3
        · rw [if_pos e3, b1]; exact ⟨_, _, rfl, by omega, by omega, b4⟩
        · rw [if_neg e3]
          obtain ⟨l, q, s1, s2, s3, s4⟩ := l92Star_ok (k + 40) hb (p := p + 1) (by omega)
          rw [s1]; simp only [Option.bind_some]
          obtain ⟨v5, h5, _, _⟩ := pick_ok (k + 59) hb (p := q) (n := 5) (by omega) (by omega)
          rw [h5]; simp only [Option.bind_some]
          by_cases e5 : v5 = 0
          · rw [if_pos e5, spec_PolyBack_eq _ l (by omega) (by omega)]
            simp only [Option.bind_some]
            refine ⟨_, _, rfl, by omega, by omega, ?_⟩
            split
            · rw [backL_length]; exact s4
            · simp
          · rw [if_neg e5]; exact ⟨_, _, rfl, by omega, by omega, s4⟩
end Go.Proofs.Ytgdhgncdpmalcaa.Pure
