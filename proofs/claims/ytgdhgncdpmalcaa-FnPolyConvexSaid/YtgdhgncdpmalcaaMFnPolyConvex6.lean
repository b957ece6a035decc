/- Part 6 of what the proof of this law rests on: the functions of the translation as plain Lean functions with their walks, and the plain laws behind. -/
import Derived.Test.YtgdhgncdpmalcaaMFnPolyConvex5
namespace Go.Proofs.Ytgdhgncdpmalcaa.Geo
open Go.Proofs.Ytgdhgncdpmalcaa.Pure
set_option linter.unusedVariables false
theorem Sep.swap {ax ay bx b_y cx cy dx dy : Int} (h : Sep cx cy dx dy ax ay bx b_y) : Sep ax ay bx b_y cx cy dx dy := by
  obtain ⟨gx, gy, h1, h2, h3, h4⟩ := h
  refine ⟨-gx, -gy, ?_, ?_, ?_, ?_⟩
  · rw [show -gx * (cx - ax) + -gy * (cy - ay) = gx * (ax - cx) + gy * (ay - cy) by grind]; exact h1
  · rw [show -gx * (dx - ax) + -gy * (dy - ay) = gx * (ax - dx) + gy * (ay - dy) by grind]; exact h3
  · rw [show -gx * (cx - bx) + -gy * (cy - b_y) = gx * (bx - cx) + gy * (b_y - cy) by grind]; exact h2
  · rw [show -gx * (dx - bx) + -gy * (dy - b_y) = gx * (bx - dx) + gy * (b_y - dy) by grind]; exact h4
theorem Sep.swap2 {ax ay bx b_y cx cy dx dy : Int} (h : Sep ax ay bx b_y dx dy cx cy) : Sep ax ay bx b_y cx cy dx dy := by
  obtain ⟨gx, gy, h1, h2, h3, h4⟩ := h
  exact ⟨gx, gy, h2, h1, h4, h3⟩
theorem Sep.swap1 {ax ay bx b_y cx cy dx dy : Int} (h : Sep bx b_y ax ay cx cy dx dy) : Sep ax ay bx b_y cx cy dx dy := by
  obtain ⟨gx, gy, h1, h2, h3, h4⟩ := h
  exact ⟨gx, gy, h3, h4, h1, h2⟩
theorem between {D N p r : Int} (hD : 0 < D) (h : r * D = p * N) (h0 : 0 ≤ N) (h1 : N ≤ D) : min 0 p ≤ r ∧ r ≤ max 0 p := by
  rcases Int.le_total 0 p with hp | hp
  · have a := Int.mul_nonneg hp h0
    have b := Int.mul_le_mul_of_nonneg_left h1 hp
    have r0 : 0 ≤ r := Int.le_of_mul_le_mul_right (a := D) (by rw [Int.zero_mul]; omega) hD
    have r1 : r ≤ p := Int.le_of_mul_le_mul_right (a := D) (by omega) hD
    omega
  · have hp' : 0 ≤ -p := by omega
    have a := Int.mul_nonneg hp' h0
    have b := Int.mul_le_mul_of_nonneg_left h1 hp'
    rw [Int.neg_mul] at a b
    rw [Int.neg_mul] at b
    have r0 : r ≤ 0 := Int.le_of_mul_le_mul_right (a := D) (by rw [Int.zero_mul]; omega) hD
    have r1 : p ≤ r := Int.le_of_mul_le_mul_right (a := D) (by omega) hD
    omega
theorem sq_nonneg (p : Int) : 0 ≤ p * p := by
  rcases Int.le_total 0 p with h | h
  · exact Int.mul_nonneg h h
  · have := Int.mul_nonneg (show 0 ≤ -p by omega) (show 0 ≤ -p by omega)
    rw [Int.neg_mul_neg] at this; exact this
theorem sq_pos {p : Int} (h : p ≠ 0) : 0 < p * p := by
  have := sq_nonneg p
  have : p * p ≠ 0 := fun e => by rcases Int.mul_eq_zero.1 e with q | q <;> exact h q
  omega
theorem norm_pos {p q : Int} (h : ¬ (p = 0 ∧ q = 0)) : 0 < p * p + q * q := by
  have a := sq_nonneg p; have b := sq_nonneg q
  by_cases hp : p = 0
  · have := sq_pos (p := q) (fun e => h ⟨hp, e⟩); omega
  · have := sq_pos hp; omega
/-- A point on the line but not on the segment lies before its beginning or behind its end. -/
theorem line_off {ax ay p q r s : Int} (h : ¬ (p = 0 ∧ q = 0)) (hc : p * s - q * r = 0) (hn : ¬ onP ax ay (ax + p) (ay + q) (ax + r) (ay + s)) :
    p * r + q * s < 0 ∨ p * p + q * q < p * r + q * s := by
  have hD := norm_pos h
  apply Classical.byContradiction; intro k
  have k0 : 0 ≤ p * r + q * s := by omega
  have k1 : p * r + q * s ≤ p * p + q * q := by omega
  have b1 := between hD (p := p) (r := r) (by grind) k0 k1
  have b2 := between hD (p := q) (r := s) (by grind) k0 k1
  apply hn
  unfold onP crs
  refine ⟨?_, ?_⟩
  · rw [show ax + p - ax = p by omega, show ay + s - ay = s by omega, show ay + q - ay = q by omega, show ax + r - ax = r by omega]; exact hc
  · omega
theorem big {K a x : Int} (hK : a.natAbs < K) (hx : 1 ≤ x) : 0 < K * x + a := by
  have : K * 1 ≤ K * x := Int.mul_le_mul_of_nonneg_left hx (by omega)
  omega
/-- c and d on one side of the line a b (or on it), and no point of one segment on the other one. -/
theorem sep0 {ax ay p q r s t z : Int} (h : ¬ (p = 0 ∧ q = 0)) (s1 : 0 ≤ p * s - q * r) (s2 : 0 ≤ p * z - q * t)
    (n1 : ¬ onP ax ay (ax + p) (ay + q) (ax + r) (ay + s)) (n2 : ¬ onP ax ay (ax + p) (ay + q) (ax + t) (ay + z)) (n3 : ¬ onP (ax + r) (ay + s) (ax + t) (ay + z) ax ay) :
    Sep ax ay (ax + p) (ay + q) (ax + r) (ay + s) (ax + t) (ay + z) := by
  have key : ∀ {r s t z : Int}, p * s - q * r = 0 → 0 < p * z - q * t → ¬ onP ax ay (ax + p) (ay + q) (ax + r) (ay + s) → Sep ax ay (ax + p) (ay + q) (ax + r) (ay + s) (ax + t) (ay + z) := by
    intro r s t z e1 e2 n1
    have : ∃ f : Int, 0 < f * (p * r + q * s) ∧ 0 < f * (p * (r - p) + q * (s - q)) := by
      have e : p * (r - p) + q * (s - q) = p * r + q * s - (p * p + q * q) := by grind
      have hD := norm_pos h
      rcases line_off h e1 n1 with k | k
      · exact ⟨-1, by omega, by omega⟩
      · exact ⟨1, by omega, by omega⟩
    obtain ⟨f, f1, f2⟩ := this
    refine ⟨((f * (p * t + q * z)).natAbs + (f * (p * (t - p) + q * (z - q))).natAbs + 1 : Nat) * -q + f * p, ((f * (p * t + q * z)).natAbs + (f * (p * (t - p) + q * (z - q))).natAbs + 1 : Nat) * p + f * q, ?_, ?_, ?_, ?_⟩
    all_goals generalize hK : (((f * (p * t + q * z)).natAbs + (f * (p * (t - p) + q * (z - q))).natAbs + 1 : Nat) : Int) = K
    · rw [show (K * -q + f * p) * (ax + r - ax) + (K * p + f * q) * (ay + s - ay) = K * (p * s - q * r) + f * (p * r + q * s) by grind, e1]; omega
    · rw [show (K * -q + f * p) * (ax + t - ax) + (K * p + f * q) * (ay + z - ay) = K * (p * z - q * t) + f * (p * t + q * z) by grind]
      exact big (by omega) (by omega)
    · rw [show (K * -q + f * p) * (ax + r - (ax + p)) + (K * p + f * q) * (ay + s - (ay + q)) = K * (p * s - q * r) + f * (p * (r - p) + q * (s - q)) by grind, e1]; omega
    · rw [show (K * -q + f * p) * (ax + t - (ax + p)) + (K * p + f * q) * (ay + z - (ay + q)) = K * (p * z - q * t) + f * (p * (t - p) + q * (z - q)) by grind]
      exact big (by omega) (by omega)
  by_cases c1 : p * s - q * r = 0
  · by_cases c2 : p * z - q * t = 0
    · have hD := norm_pos h
      have e1 : p * (r - p) + q * (s - q) = p * r + q * s - (p * p + q * q) := by grind
      have e2 : p * (t - p) + q * (z - q) = p * t + q * z - (p * p + q * q) := by grind
      have opp : ∀ {a b : Int}, a = p * r + q * s → b = p * t + q * z → (a < 0 ∧ 0 < b ∨ 0 < a ∧ b < 0) → False := by
        intro a b ha hb hab
        have m : (p * p + q * q) * (r * t + s * z) = a * b := by rw [ha, hb]; grind
        have mn : a * b < 0 := by
          rcases hab with ⟨x, y⟩ | ⟨x, y⟩
          · have := Int.mul_pos (show 0 < -a by omega) y; rw [Int.neg_mul] at this; omega
          · have := Int.mul_pos x (show 0 < -b by omega); rw [Int.mul_neg] at this; omega
        have vw : r * t + s * z < 0 := by
          apply Classical.byContradiction; intro k
          have := Int.mul_nonneg (Int.le_of_lt hD) (show 0 ≤ r * t + s * z by omega); omega
        have ne : ¬ (t - r = 0 ∧ z - s = 0) := fun ⟨x, y⟩ => by
          have : t = r := by omega
          have : z = s := by omega
          subst t; subst z
          have := sq_nonneg r; have := sq_nonneg s; omega
        have cz : (t - r) * -s - (z - s) * -r = 0 := by
          have : (p * p + q * q) * ((t - r) * -s - (z - s) * -r) = 0 := by grind
          rcases Int.mul_eq_zero.1 this with x | x <;> omega
        have n3' : ¬ onP (ax + r) (ay + s) (ax + r + (t - r)) (ay + s + (z - s)) (ax + r + -r) (ay + s + -s) := by
          rw [show ax + r + (t - r) = ax + t by omega, show ay + s + (z - s) = ay + z by omega, show ax + r + -r = ax by omega, show ay + s + -s = ay by omega]; exact n3
        have v0 := sq_nonneg r; have v1 := sq_nonneg s; have v2 := sq_nonneg t; have v3 := sq_nonneg z
        rcases line_off ne cz n3' with k | k
        · rw [show (t - r) * -r + (z - s) * -s = r * r + s * s - (r * t + s * z) by grind] at k; omega
        · rw [show (t - r) * -r + (z - s) * -s = r * r + s * s - (r * t + s * z) by grind, show (t - r) * (t - r) + (z - s) * (z - s) = r * r + s * s + (t * t + z * z) - 2 * (r * t + s * z) by grind] at k; omega
      rcases line_off h c1 n1 with k1 | k1
      · rcases line_off h c2 n2 with k2 | k2
        · refine ⟨-p, -q, ?_, ?_, ?_, ?_⟩
          · rw [show -p * (ax + r - ax) + -q * (ay + s - ay) = -(p * r + q * s) by grind]; omega
          · rw [show -p * (ax + t - ax) + -q * (ay + z - ay) = -(p * t + q * z) by grind]; omega
          · rw [show -p * (ax + r - (ax + p)) + -q * (ay + s - (ay + q)) = -(p * (r - p) + q * (s - q)) by grind]; omega
          · rw [show -p * (ax + t - (ax + p)) + -q * (ay + z - (ay + q)) = -(p * (t - p) + q * (z - q)) by grind]; omega
        · exact (opp rfl rfl (.inl ⟨k1, by omega⟩)).elim
      · rcases line_off h c2 n2 with k2 | k2
        · exact (opp rfl rfl (.inr ⟨by omega, k2⟩)).elim
        · refine ⟨p, q, ?_, ?_, ?_, ?_⟩
          · rw [show p * (ax + r - ax) + q * (ay + s - ay) = (p * r + q * s) by grind]; omega
          · rw [show p * (ax + t - ax) + q * (ay + z - ay) = (p * t + q * z) by grind]; omega
          · rw [show p * (ax + r - (ax + p)) + q * (ay + s - (ay + q)) = (p * (r - p) + q * (s - q)) by grind]; omega
          · rw [show p * (ax + t - (ax + p)) + q * (ay + z - (ay + q)) = (p * (t - p) + q * (z - q)) by grind]; omega
    · exact key c1 (by omega) n1
  · by_cases c2 : p * z - q * t = 0
    · exact (key c2 (by omega) n2).swap2
    · refine ⟨-q, p, ?_, ?_, ?_, ?_⟩
      · rw [show -q * (ax + r - ax) + p * (ay + s - ay) = p * s - q * r by grind]; omega
      · rw [show -q * (ax + t - ax) + p * (ay + z - ay) = p * z - q * t by grind]; omega
      · rw [show -q * (ax + r - (ax + p)) + p * (ay + s - (ay + q)) = p * s - q * r by grind]; omega
      · rw [show -q * (ax + t - (ax + p)) + p * (ay + z - (ay + q)) = p * z - q * t by grind]; omega
theorem sep1 {ax ay bx b_y cx cy dx dy : Int} (h : ¬ (bx = ax ∧ b_y = ay)) (s1 : 0 ≤ crs ax ay bx b_y cx cy) (s2 : 0 ≤ crs ax ay bx b_y dx dy)
    (n1 : ¬ onP ax ay bx b_y cx cy) (n2 : ¬ onP ax ay bx b_y dx dy) (n3 : ¬ onP cx cy dx dy ax ay) : Sep ax ay bx b_y cx cy dx dy := by
  have e : ∀ u v : Int, v = u + (v - u) := fun u v => by omega
  have := sep0 (ax := ax) (ay := ay) (p := bx - ax) (q := b_y - ay) (r := cx - ax) (s := cy - ay) (t := dx - ax) (z := dy - ay) (by omega) s1 s2
    (by rw [← e, ← e, ← e, ← e]; exact n1) (by rw [← e, ← e, ← e, ← e]; exact n2) (by rw [← e, ← e, ← e, ← e]; exact n3)
  rw [← e, ← e, ← e, ← e, ← e, ← e] at this
  exact this
theorem sep2 {ax ay bx b_y cx cy dx dy : Int} (h : ¬ (bx = ax ∧ b_y = ay)) (so : ¬ opp (crs ax ay bx b_y cx cy) (crs ax ay bx b_y dx dy))
    (n1 : ¬ onP ax ay bx b_y cx cy) (n2 : ¬ onP ax ay bx b_y dx dy) (n3 : ¬ onP cx cy dx dy ax ay) (n4 : ¬ onP cx cy dx dy bx b_y) : Sep ax ay bx b_y cx cy dx dy := by
  by_cases c : 0 ≤ crs ax ay bx b_y cx cy ∧ 0 ≤ crs ax ay bx b_y dx dy
  · exact sep1 h c.1 c.2 n1 n2 n3
  · unfold opp at so
    refine Sep.swap1 (sep1 (by omega) ?_ ?_ (by rw [onP_sym]; exact n1) (by rw [onP_sym]; exact n2) n4)
    · rw [crs_swap]; omega
    · rw [crs_swap]; omega
theorem sep_meet {ax ay bx b_y cx cy dx dy : Int} (h : ¬ (bx = ax ∧ b_y = ay)) (h2 : ¬ (dx = cx ∧ dy = cy)) (hm : ¬ meetI ax ay bx b_y cx cy dx dy) : Sep ax ay bx b_y cx cy dx dy := by
  unfold meetI at hm
  have n1 : ¬ onP ax ay bx b_y cx cy := fun c => hm (.inl c)
  have n2 : ¬ onP ax ay bx b_y dx dy := fun c => hm (.inr (.inl c))
  have n3 : ¬ onP cx cy dx dy ax ay := fun c => hm (.inr (.inr (.inl c)))
  have n4 : ¬ onP cx cy dx dy bx b_y := fun c => hm (.inr (.inr (.inr (.inl c))))
  by_cases c : opp (crs ax ay bx b_y cx cy) (crs ax ay bx b_y dx dy)
  · have c2 : ¬ opp (crs cx cy dx dy ax ay) (crs cx cy dx dy bx b_y) := fun d => hm (.inr (.inr (.inr (.inr ⟨c, d⟩))))
    exact (sep2 h2 c2 n3 n4 n1 n2).swap
  · exact sep2 h c n1 n2 n3 n4
theorem fwd_of {ax ay bx b_y cx cy : Int} (h1 : ¬ (bx = ax ∧ b_y = ay)) (h2 : ¬ (cx = bx ∧ cy = b_y)) (n1 : ¬ onP ax ay bx b_y cx cy) (n2 : ¬ onP bx b_y cx cy ax ay) :
    Fwd (bx - ax) (b_y - ay) (cx - bx) (cy - b_y) := by
  have e : crs ax ay bx b_y cx cy = (bx - ax) * (cy - b_y) - (b_y - ay) * (cx - bx) := by unfold crs; grind
  obtain ⟨p, hp⟩ : ∃ p, p = bx - ax := ⟨_, rfl⟩
  obtain ⟨q, hq⟩ : ∃ q, q = b_y - ay := ⟨_, rfl⟩
  obtain ⟨r, hr⟩ : ∃ r, r = cx - bx := ⟨_, rfl⟩
  obtain ⟨s, hs⟩ : ∃ s, s = cy - b_y := ⟨_, rfl⟩
  rw [← hp, ← hq, ← hr, ← hs] at e ⊢
  rcases Int.lt_trichotomy (p * s - q * r) 0 with k | k | k
  · refine ⟨-s - -q, r - p, ?_, ?_⟩
    · rw [show (-s - -q) * p + (r - p) * q = -(p * s - q * r) by grind]; omega
    · rw [show (-s - -q) * r + (r - p) * s = -(p * s - q * r) by grind]; omega
  · have hD := norm_pos (p := p) (q := q) (by omega)
    refine ⟨p, q, by omega, ?_⟩
    have a := line_off (ax := ax) (ay := ay) (p := p) (q := q) (r := p + r) (s := q + s) (by omega) (by grind)
      (by rw [show ax + p = bx by omega, show ay + q = b_y by omega, show ax + (p + r) = cx by omega, show ay + (q + s) = cy by omega]; exact n1)
    have b := line_off (ax := bx) (ay := b_y) (p := r) (q := s) (r := -p) (s := -q) (by omega) (by grind)
      (by rw [show bx + r = cx by omega, show b_y + s = cy by omega, show bx + -p = ax by omega, show b_y + -q = ay by omega]; exact n2)
    rw [show p * (p + r) + q * (q + s) = (p * p + q * q) + (p * r + q * s) by grind] at a
    rw [show r * -p + s * -q = -(p * r + q * s) by grind] at b
    have hE := norm_pos (p := r) (q := s) (by omega)
    have e2 : (p * r + q * s) * (p * r + q * s) = (p * p + q * q) * (r * r + s * s) := by
      have : (p * r + q * s) * (p * r + q * s) = (p * p + q * q) * (r * r + s * s) - (p * s - q * r) * (p * s - q * r) := by grind
      rw [k] at this; omega
    generalize p * r + q * s = N at a b e2 ⊢
    generalize p * p + q * q = D at a b e2 hD
    generalize r * r + s * s = F at a b e2 hE
    by_cases c : 0 < N
    · exact c
    · have m := Int.mul_pos (show 0 < -N - D by omega) (show 0 < -N - F by omega)
      have m1 := Int.mul_pos hD (show 0 < -N - F by omega)
      have m2 := Int.mul_pos hE (show 0 < -N - D by omega)
      grind
  · refine ⟨s - q, -r - -p, ?_, ?_⟩
    · rw [show (s - q) * p + (-r - -p) * q = (p * s - q * r) by grind]; omega
    · rw [show (s - q) * r + (-r - -p) * s = (p * s - q * r) by grind]; omega
theorem SimpI.ne {n : Nat} {X Y : Nat → Int} (h : SimpI n X Y) (i : Nat) : ¬ (X (i + 1) = X i ∧ Y (i + 1) = Y i) := fun ⟨a, b⟩ => by
  have n3 := h.n3
  have m1 := Nat.mod_lt i (show 0 < n by omega)
  have m2 := Nat.mod_lt (i + 1) (show 0 < n by omega)
  have e := h.dist _ _ m1 m2 (by rw [modp h.px, modp h.px]; exact a.symm) (by rw [modp h.py, modp h.py]; exact b.symm)
  rw [Nat.add_mod] at e
  by_cases c : i % n + 1 < n
  · rw [Nat.mod_eq_of_lt (show 1 < n by omega), Nat.mod_eq_of_lt c] at e; omega
  · rw [Nat.mod_eq_of_lt (show 1 < n by omega), show i % n + 1 = n by omega, Nat.mod_self] at e; omega
theorem SimpI.simple {n : Nat} {X Y : Nat → Int} (h : SimpI n X Y) : Simple n X Y :=
  ⟨h.n3, h.px, h.py, fun i j h1 h2 => sep_meet (SimpI.ne h i) (SimpI.ne h j) (h.meet i j h1 h2), fun i => fwd_of (SimpI.ne h i) (SimpI.ne h (i + 1)) (h.fold i).1 (h.fold i).2⟩
end Go.Proofs.Ytgdhgncdpmalcaa.Geo
namespace Go.Proofs.Ytgdhgncdpmalcaa.Geo
open Go.Proofs.Ytgdhgncdpmalcaa.Pure
set_option linter.unusedVariables false
/-! scaled -/
theorem scl (K g h a b c d : Int) : g * (K * a - K * b) + h * (K * c - K * d) = K * (g * (a - b) + h * (c - d)) := by grind
theorem Simple.scale {n : Nat} {X Y : Nat → Int} (h : Simple n X Y) {K : Int} (hK : 0 < K) : Simple n (fun i => K * X i) (fun i => K * Y i) := by
  refine ⟨h.n3, fun i => by rw [h.px], fun i => by rw [h.py], fun i j a b => ?_, fun i => ?_⟩
  · obtain ⟨g, k, h1, h2, h3, h4⟩ := h.sep i j a b
    exact ⟨g, k, by rw [scl]; exact Int.mul_pos hK h1, by rw [scl]; exact Int.mul_pos hK h2, by rw [scl]; exact Int.mul_pos hK h3, by rw [scl]; exact Int.mul_pos hK h4⟩
  · obtain ⟨g, k, h1, h2⟩ := h.fwd i
    exact ⟨g, k, by rw [scl]; exact Int.mul_pos hK h1, by rw [scl]; exact Int.mul_pos hK h2⟩
theorem cr_scale {K a b c d a' b' c' d' : Int} (hK : 0 < K) (ha : a' = K * a) (hb : b' = K * b) (hc : c' = K * c) (hd : d' = K * d) : cr a' b' c' d' = cr a b c d := by
  rw [ha, hb, hc, hd, cr_scale_l hK, cr_scale_r hK]
theorem wn_scale {n : Nat} {X Y : Nat → Int} {K : Int} (hK : 0 < K) (x y : Int) : wn n (fun i => K * X i) (fun i => K * Y i) (K * x) (K * y) = wn n X Y x y :=
  sm_congr (fun j _ _ => cr_scale hK (by grind) (by grind) (by grind) (by grind))
theorem wl_scale {n : Nat} {X Y : Nat → Int} {K : Int} (hK : 0 < K) (i : Nat) : wl n (fun i => K * X i) (fun i => K * Y i) i = wl n X Y i := by
  have o : open_ n (fun i => K * X i) (fun i => K * Y i) (i + 1) = open_ n X Y (i + 1) :=
    sm_congr (fun j _ _ => cr_scale hK (by grind) (by grind) (by grind) (by grind))
  have l : L (K * X (i + 2) - K * X (i + 1)) (K * Y (i + 2) - K * Y (i + 1)) = L (X (i + 2) - X (i + 1)) (Y (i + 2) - Y (i + 1)) := by rw [← Int.mul_sub, ← Int.mul_sub, L_scale hK]
  unfold wl
  rw [o, l]
  rw [cr_scale (K := K) (a := -(X (i + 1) - X i)) (b := -(Y (i + 1) - Y i)) (c := -(X (i + 2) - X (i + 1))) (d := -(Y (i + 2) - Y (i + 1))) hK (by grind) (by grind) (by grind) (by grind)]
/-! a point that moves without meeting a side -/
theorem wn_move {n : Nat} {X Y : Nat → Int} (px : ∀ i, X (i + n) = X i) (py : ∀ i, Y (i + n) = Y i) {x y x' y' : Int} (hs : ∀ j, j < n → Sep x y x' y' (X j) (Y j) (X (j + 1)) (Y (j + 1))) : wn n X Y x y = wn n X Y x' y' := by
  have c := sm_cells (lo := 0) (k := n) (f := side X Y x y) (g := side X Y x' y') (h := fun j => cr (X j - x) (Y j - y) (X j - x') (Y j - y')) (fun j _ b => cell (hs j (by omega)))
  have p0 := px 0; have p1 := py 0
  rw [Nat.zero_add] at p0 p1
  simp only [Nat.zero_add, p0, p1] at c
  unfold wn; omega
/-- A point that lies on no side, and not on its line or else before or behind it: one functional is positive on what leads from it to both ends. -/
theorem off_fun {ax ay bx b_y x y : Int} (h : ¬ (bx = ax ∧ b_y = ay)) (ho : ¬ onP ax ay bx b_y x y) : ∃ g k : Int, 0 < g * (ax - x) + k * (ay - y) ∧ 0 < g * (bx - x) + k * (b_y - y) := by
  rcases Int.lt_trichotomy (crs ax ay bx b_y x y) 0 with c | c | c
  · refine ⟨-(b_y - ay), bx - ax, ?_, ?_⟩ <;> (unfold crs at c; grind)
  · have l := line_off (ax := ax) (ay := ay) (p := bx - ax) (q := b_y - ay) (r := x - ax) (s := y - ay) (by omega) c
      (by rw [show ax + (bx - ax) = bx by omega, show ay + (b_y - ay) = b_y by omega, show ax + (x - ax) = x by omega, show ay + (y - ay) = y by omega]; exact ho)
    have hD := norm_pos (p := bx - ax) (q := b_y - ay) (by omega)
    rcases l with l | l
    · refine ⟨bx - ax, b_y - ay, ?_, ?_⟩ <;> grind
    · refine ⟨-(bx - ax), -(b_y - ay), ?_, ?_⟩ <;> grind
  · refine ⟨b_y - ay, -(bx - ax), ?_, ?_⟩ <;> (unfold crs at c; grind)
/-- Finitely many functionals have a common bound. -/
theorem bound_all {P : Nat → Int → Int → Prop} (n : Nat) (h : ∀ j, j < n → ∃ g k, P j g k) : ∃ K : Int, 0 < K ∧ ∀ j, j < n → ∃ g k, P j g k ∧ k < K ∧ -K < k := by
  induction n with
  | zero => exact ⟨1, by omega, fun j hj => by omega⟩
  | succ n ih =>
    obtain ⟨K, h0, hK⟩ := ih (fun j hj => h j (by omega))
    obtain ⟨g, k, hp⟩ := h n (by omega)
    refine ⟨K + k.natAbs + 1, by omega, fun j hj => ?_⟩
    by_cases e : j = n
    · subst e; exact ⟨g, k, hp, by omega, by omega⟩
    · obtain ⟨g', k', hp', a, b⟩ := hK j (by omega)
      exact ⟨g', k', hp', by omega, by omega⟩
/-- The point lies on no side: one functional for each side. -/
def Offs (n : Nat) (X Y : Nat → Int) (x y : Int) : Prop := ∀ j, j < n → ∃ g k : Int, 0 < g * (X j - x) + k * (Y j - y) ∧ 0 < g * (X (j + 1) - x) + k * (Y (j + 1) - y)
theorem offs_of {n : Nat} {X Y : Nat → Int} {x y : Int} (ne : ∀ j, ¬ (X (j + 1) = X j ∧ Y (j + 1) = Y j)) (ho : ∀ j, j < n → ¬ onP (X j) (Y j) (X (j + 1)) (Y (j + 1)) x y) : Offs n X Y x y :=
  fun j hj => off_fun (ne j) (ho j hj)
/-- Scaled, the point may be put on a row without corners. -/
theorem row_free {n : Nat} {X Y : Nat → Int} (px : ∀ i, X (i + n) = X i) (py : ∀ i, Y (i + n) = Y i) {x y : Int} (ho : Offs n X Y x y) :
    ∃ K : Int, 1 < K ∧ wn n (fun i => K * X i) (fun i => K * Y i) (K * x) (K * y + 1) = wn n X Y x y ∧ Offs n (fun i => K * X i) (fun i => K * Y i) (K * x) (K * y + 1) := by
  obtain ⟨K, h0, hK⟩ := bound_all (P := fun j g k => 0 < g * (X j - x) + k * (Y j - y) ∧ 0 < g * (X (j + 1) - x) + k * (Y (j + 1) - y)) n ho
  have main : ∀ j, j < n → Sep ((K + 1) * x) ((K + 1) * y) ((K + 1) * x) ((K + 1) * y + 1) ((K + 1) * X j) ((K + 1) * Y j) ((K + 1) * X (j + 1)) ((K + 1) * Y (j + 1)) := fun j hj => by
    obtain ⟨g, k, ⟨h1, h2⟩, a, b⟩ := hK j hj
    have m : ∀ {t : Int}, 0 < t → 0 < (K + 1) * t ∧ 0 < (K + 1) * t - k := fun {t} ht => by
      have : (K + 1) * 1 ≤ (K + 1) * t := Int.mul_le_mul_of_nonneg_left ht (by omega)
      omega
    refine ⟨g, k, by rw [scl]; exact (m h1).1, by rw [scl]; exact (m h2).1, ?_, ?_⟩
    · rw [show g * ((K + 1) * X j - (K + 1) * x) + k * ((K + 1) * Y j - ((K + 1) * y + 1)) = (K + 1) * (g * (X j - x) + k * (Y j - y)) - k by grind]; exact (m h1).2
    · rw [show g * ((K + 1) * X (j + 1) - (K + 1) * x) + k * ((K + 1) * Y (j + 1) - ((K + 1) * y + 1)) = (K + 1) * (g * (X (j + 1) - x) + k * (Y (j + 1) - y)) - k by grind]; exact (m h2).2
  refine ⟨K + 1, by omega, ?_, fun j hj => ?_⟩
  · rw [← wn_scale (X := X) (Y := Y) (show 0 < K + 1 by omega) x y]
    exact (wn_move (fun i => by rw [px]) (fun i => by rw [py]) main).symm
  · obtain ⟨g, k, _, _, h3, h4⟩ := main j hj
    exact ⟨g, k, h3, h4⟩
theorem argmin (m : Nat) (P : Nat → Prop) (N D : Nat → Int) (hD : ∀ j, P j → 0 < D j) : (∀ j, j < m → ¬ P j) ∨ ∃ j, j < m ∧ P j ∧ ∀ k, k < m → P k → N j * D k ≤ N k * D j := by
  induction m with
  | zero => exact .inl (fun j hj => by omega)
  | succ m ih =>
    by_cases c : P m
    · rcases ih with a | ⟨j, hj, pj, hm⟩
      · refine .inr ⟨m, by omega, c, fun k hk pk => ?_⟩
        by_cases e : k = m
        · subst e; omega
        · exact (a k (by omega) pk).elim
      · by_cases d : N j * D m ≤ N m * D j
        · refine .inr ⟨j, by omega, pj, fun k hk pk => ?_⟩
          by_cases e : k = m
          · subst e; exact d
          · exact hm k (by omega) pk
        · refine .inr ⟨m, by omega, c, fun k hk pk => ?_⟩
          by_cases e : k = m
          · subst e; omega
          · have h1 := hm k (by omega) pk
            have d1 := hD j pj; have d2 := hD m c; have d3 := hD k pk
            have a1 := Int.mul_le_mul_of_nonneg_right h1 (Int.le_of_lt d2)
            have a2 := Int.mul_le_mul_of_nonneg_right (show N m * D j ≤ N j * D m by omega) (Int.le_of_lt d3)
            refine Int.le_of_mul_le_mul_right (a := D j) ?_ d1
            grind
    · rcases ih with a | ⟨j, hj, pj, hm⟩
      · refine .inl (fun j hj => ?_)
        by_cases e : j = m
        · subst e; exact c
        · exact a j (by omega)
      · refine .inr ⟨j, by omega, pj, fun k hk pk => ?_⟩
        by_cases e : k = m
        · subst e; exact (c pk).elim
        · exact hm k (by omega) pk
/-! the row of a point: u, v lead to the ends of a side -/
/-- The side crosses the row. -/
def crosses (b d : Int) : Prop := (b < 0 ∧ 0 < d) ∨ (d < 0 ∧ 0 < b)
/-- The crossing lies N / D to the east. -/
def rowN (a b c d : Int) : Int := d.natAbs * a + b.natAbs * c
def rowD (b d : Int) : Int := b.natAbs + d.natAbs
/-- The functional of the side: what both ends have. -/
theorem rowG {a b c d : Int} (h : crosses b d) : ∃ k : Int, rowD b d * a + k * b = rowN a b c d ∧ rowD b d * c + k * d = rowN a b c d := by
  unfold rowD rowN
  rcases h with ⟨h1, h2⟩ | ⟨h1, h2⟩
  · refine ⟨a - c, ?_, ?_⟩
    · rw [show (b.natAbs : Int) = -b by omega, show (d.natAbs : Int) = d by omega]; grind
    · rw [show (b.natAbs : Int) = -b by omega, show (d.natAbs : Int) = d by omega]; grind
  · refine ⟨c - a, ?_, ?_⟩
    · rw [show (b.natAbs : Int) = b by omega, show (d.natAbs : Int) = -d by omega]; grind
    · rw [show (b.natAbs : Int) = b by omega, show (d.natAbs : Int) = -d by omega]; grind
/-- A side that does not cross the row east of the point is not counted. -/
theorem cr_row {a b c d : Int} (hb : b ≠ 0) (hd : d ≠ 0) (h : ¬ (crosses b d ∧ 0 < rowN a b c d)) : cr a b c d = 0 := by
  unfold cr cro
  by_cases h1 : b < 0
  · rw [if_pos (by unfold low; omega)]
    by_cases h2 : d < 0
    · rw [if_pos (by unfold low; omega)]
    · rw [if_neg (by unfold low; omega), if_neg]
      intro k; apply h
      refine ⟨.inl ⟨h1, by omega⟩, ?_⟩
      unfold rowN
      rw [show (b.natAbs : Int) = -b by omega, show (d.natAbs : Int) = d by omega]; grind
  · rw [if_neg (by unfold low; omega)]
    by_cases h2 : d < 0
    · rw [if_pos (by unfold low; omega), if_neg]
      intro k; apply h
      refine ⟨.inr ⟨h2, by omega⟩, ?_⟩
      unfold rowN
      rw [show (b.natAbs : Int) = b by omega, show (d.natAbs : Int) = -d by omega]; grind
    · rw [if_neg (by unfold low; omega)]
/-- Two sides apart have no crossing in common. -/
theorem sep_row {ax ay bx b_y cx cy dx dy x y : Int} (h : Sep ax ay bx b_y cx cy dx dy) (c1 : crosses (ay - y) (b_y - y)) (c2 : crosses (cy - y) (dy - y)) :
    rowN (ax - x) (ay - y) (bx - x) (b_y - y) * rowD (cy - y) (dy - y) ≠ rowN (cx - x) (cy - y) (dx - x) (dy - y) * rowD (ay - y) (b_y - y) := by
  obtain ⟨g, k, h1, h2, h3, h4⟩ := h
  intro e
  unfold rowN rowD at e
  have pos : ∀ {u v : Int}, crosses u v → 0 < (u.natAbs : Int) ∧ 0 < (v.natAbs : Int) ∧ v.natAbs * u + u.natAbs * v = 0 := by
    intro u v c
    refine ⟨by unfold crosses at c; omega, by unfold crosses at c; omega, ?_⟩
    rcases c with ⟨c, d⟩ | ⟨c, d⟩
    · rw [show (u.natAbs : Int) = -u by omega, show (v.natAbs : Int) = v by omega]; grind
    · rw [show (u.natAbs : Int) = u by omega, show (v.natAbs : Int) = -v by omega]; grind
  obtain ⟨p1, p2, p3⟩ := pos c1
  obtain ⟨q1, q2, q3⟩ := pos c2
  generalize ((ay - y).natAbs : Int) = al at *
  generalize ((b_y - y).natAbs : Int) = be at *
  generalize ((cy - y).natAbs : Int) = ga at *
  generalize ((dy - y).natAbs : Int) = de at *
  have m1 := Int.mul_pos (Int.mul_pos p2 q2) h1
  have m2 := Int.mul_pos (Int.mul_pos p2 q1) h2
  have m3 := Int.mul_pos (Int.mul_pos p1 q2) h3
  have m4 := Int.mul_pos (Int.mul_pos p1 q1) h4
  have s : be * de * (g * (cx - ax) + k * (cy - ay)) + be * ga * (g * (dx - ax) + k * (dy - ay)) + al * de * (g * (cx - bx) + k * (cy - b_y)) + al * ga * (g * (dx - bx) + k * (dy - b_y)) =
    g * ((al + be) * (de * (cx - x) + ga * (dx - x)) - (de + ga) * (be * (ax - x) + al * (bx - x))) + k * ((al + be) * (de * (cy - y) + ga * (dy - y)) - (de + ga) * (be * (ay - y) + al * (b_y - y))) := by grind
  rw [p3, q3] at s
  rw [show (al + be) * (de * (cx - x) + ga * (dx - x)) - (de + ga) * (be * (ax - x) + al * (bx - x)) = 0 by grind] at s
  simp at s
  omega
theorem nat_pos {u v : Int} (c : crosses u v) : 0 < (u.natAbs : Int) ∧ 0 < (v.natAbs : Int) ∧ v.natAbs * u + u.natAbs * v = 0 := by
  refine ⟨by unfold crosses at c; omega, by unfold crosses at c; omega, ?_⟩
  rcases c with ⟨c, d⟩ | ⟨c, d⟩
  · rw [show (u.natAbs : Int) = -u by omega, show (v.natAbs : Int) = v by omega]; grind
  · rw [show (u.natAbs : Int) = u by omega, show (v.natAbs : Int) = -v by omega]; grind
theorem fwd_row {ax ay bx b_y cx cy x y : Int} (h : Fwd (bx - ax) (b_y - ay) (cx - bx) (cy - b_y)) (c1 : crosses (ay - y) (b_y - y)) (c2 : crosses (b_y - y) (cy - y)) :
    rowN (ax - x) (ay - y) (bx - x) (b_y - y) * rowD (b_y - y) (cy - y) ≠ rowN (bx - x) (b_y - y) (cx - x) (cy - y) * rowD (ay - y) (b_y - y) := by
  obtain ⟨g, k, h1, h2⟩ := h
  intro e
  unfold rowN rowD at e
  obtain ⟨p1, p2, p3⟩ := nat_pos c1
  obtain ⟨q1, q2, q3⟩ := nat_pos c2
  generalize ((ay - y).natAbs : Int) = al at *
  generalize ((b_y - y).natAbs : Int) = be at *
  generalize ((cy - y).natAbs : Int) = ga at *
  have m1 := Int.mul_pos (Int.mul_pos (show 0 < al + be by omega) p2) h2
  have m2 := Int.mul_pos (Int.mul_pos (show 0 < be + ga by omega) p2) h1
  have s : (al + be) * be * (g * (cx - bx) + k * (cy - b_y)) + (be + ga) * be * (g * (bx - ax) + k * (b_y - ay)) =
    g * ((al + be) * (ga * (bx - x) + be * (cx - x)) - (be + ga) * (be * (ax - x) + al * (bx - x))) + k * ((al + be) * (ga * (b_y - y) + be * (cy - y)) - (be + ga) * (be * (ay - y) + al * (b_y - y))) := by grind
  rw [p3, q3, show (al + be) * (ga * (bx - x) + be * (cx - x)) - (be + ga) * (be * (ax - x) + al * (bx - x)) = 0 by grind] at s
  simp at s
  omega
section
variable (X Y : Nat → Int) (x y : Int)
def jC (j : Nat) : Prop := crosses (Y j - y) (Y (j + 1) - y)
def jN (j : Nat) : Int := rowN (X j - x) (Y j - y) (X (j + 1) - x) (Y (j + 1) - y)
def jD (j : Nat) : Int := rowD (Y j - y) (Y (j + 1) - y)
end
theorem jD_pos {Y : Nat → Int} {y : Int} {j : Nat} (h : jC Y y j) : 0 < jD Y y j := by unfold jC crosses at h; unfold jD rowD; omega
theorem jN_per {n : Nat} {X Y : Nat → Int} {x y : Int} (px : ∀ i, X (i + n) = X i) (py : ∀ i, Y (i + n) = Y i) (j : Nat) : jN X Y x y (j + n) = jN X Y x y j ∧ jD Y y (j + n) = jD Y y j ∧ (jC Y y (j + n) ↔ jC Y y j) := by
  unfold jN jD jC
  rw [show j + n + 1 = j + 1 + n by omega, px, px, py, py]
  exact ⟨rfl, rfl, Iff.rfl⟩
theorem apart {n : Nat} {X Y : Nat → Int} (h : Simple n X Y) {x y : Int} {j k : Nat} (hj : j < k) (hk : k < n) (c1 : jC Y y j) (c2 : jC Y y k) : jN X Y x y j * jD Y y k ≠ jN X Y x y k * jD Y y j := by
  have n3 := h.n3
  by_cases e : k = j + 1
  · subst e
    exact fwd_row (h.fwd j) c1 c2
  · by_cases e2 : k + 2 ≤ j + n
    · exact sep_row (h.sep j k (by omega) e2) c1 c2
    · obtain rfl : j = 0 := by omega
      obtain ⟨m, rfl⟩ : ∃ m, n = m + 1 := ⟨n - 1, by omega⟩
      obtain rfl : k = m := by omega
      have p := jN_per (x := x) (y := y) h.px h.py 0
      rw [Nat.zero_add] at p
      rw [← p.1, ← p.2.1]
      exact (fwd_row (h.fwd k) c2 (p.2.2.2 c1)).symm
theorem apart' {n : Nat} {X Y : Nat → Int} (h : Simple n X Y) {x y : Int} {j k : Nat} (hj : j < n) (hk : k < n) (hjk : j ≠ k) (c1 : jC Y y j) (c2 : jC Y y k) : jN X Y x y j * jD Y y k ≠ jN X Y x y k * jD Y y j := by
  rcases Nat.lt_or_ge j k with q | q
  · exact apart h q hk c1 c2
  · exact (apart h (by omega) hj c2 c1).symm
theorem wn_row {n : Nat} {X Y : Nat → Int} (h : Simple n X Y) {x y : Int} (hr : ∀ j, Y j ≠ y) (ho : Offs n X Y x y) : wn n X Y x y = 0 ∨ wn n X Y x y = wl n X Y 0 ∨ wn n X Y x y = wl n X Y 0 - 1 := by
  have n3 := h.n3
  rcases argmin n (fun j => jC Y y j ∧ 0 < jN X Y x y j) (jN X Y x y) (jD Y y) (fun j hj => jD_pos hj.1) with a | ⟨j, hj, ⟨cj, pj⟩, hm⟩
  · refine .inl (sm_zero (fun j _ b => ?_))
    exact cr_row (by have := hr j; omega) (by have := hr (j + 1); omega) (a j (by omega))
  · right
    have hD := jD_pos cj
    have near : ∀ k, k < n → k ≠ j → Sep (jD Y y j * x) (jD Y y j * y) (jD Y y j * x + jN X Y x y j) (jD Y y j * y) (jD Y y j * X k) (jD Y y j * Y k) (jD Y y j * X (k + 1)) (jD Y y j * Y (k + 1)) := by
      intro k hk hkj
      have y0 := hr k; have y1 := hr (k + 1)
      by_cases c : jC Y y k
      · obtain ⟨g, g1, g2⟩ := rowG (a := X k - x) (c := X (k + 1) - x) c
        have e1 : jD Y y k * (X k - x) + g * (Y k - y) = jN X Y x y k := g1
        have e2 : jD Y y k * (X (k + 1) - x) + g * (Y (k + 1) - y) = jN X Y x y k := g2
        have nz : jN X Y x y k ≠ 0 := by
          intro z
          obtain ⟨a, b, o1, o2⟩ := ho k hk
          obtain ⟨p1, p2, p3⟩ := nat_pos c
          have m1 := Int.mul_pos p2 o1
          have m2 := Int.mul_pos p1 o2
          have s : ((Y (k + 1) - y).natAbs : Int) * (a * (X k - x) + b * (Y k - y)) + ((Y k - y).natAbs : Int) * (a * (X (k + 1) - x) + b * (Y (k + 1) - y)) =
            a * jN X Y x y k + b * (((Y (k + 1) - y).natAbs : Int) * (Y k - y) + ((Y k - y).natAbs : Int) * (Y (k + 1) - y)) := by unfold jN rowN; grind
          rw [p3, z] at s
          simp at s
          omega
        rcases Int.lt_or_le 0 (jN X Y x y k) with q | q
        · have le := hm k hk ⟨c, q⟩
          have ne := apart' h hj hk (fun e => hkj e.symm) cj c (x := x)
          have m := Int.mul_pos hD q
          have cm := Int.mul_comm (jD Y y j) (jN X Y x y k)
          have cm2 := Int.mul_comm (jD Y y k) (jN X Y x y j)
          refine ⟨jD Y y k, g, ?_, ?_, ?_, ?_⟩
          · rw [scl, e1]; exact m
          · rw [scl, e2]; exact m
          · rw [show jD Y y k * (jD Y y j * X k - (jD Y y j * x + jN X Y x y j)) + g * (jD Y y j * Y k - jD Y y j * y) = jD Y y j * (jD Y y k * (X k - x) + g * (Y k - y)) - jD Y y k * jN X Y x y j by grind, e1]; omega
          · rw [show jD Y y k * (jD Y y j * X (k + 1) - (jD Y y j * x + jN X Y x y j)) + g * (jD Y y j * Y (k + 1) - jD Y y j * y) = jD Y y j * (jD Y y k * (X (k + 1) - x) + g * (Y (k + 1) - y)) - jD Y y k * jN X Y x y j by grind, e2]; omega
        · have m := Int.mul_pos hD (show 0 < -jN X Y x y k by omega)
          have m2 := Int.mul_pos (jD_pos c) pj
          refine ⟨-jD Y y k, -g, ?_, ?_, ?_, ?_⟩
          · rw [scl, show -jD Y y k * (X k - x) + -g * (Y k - y) = -(jD Y y k * (X k - x) + g * (Y k - y)) by grind, e1]; exact m
          · rw [scl, show -jD Y y k * (X (k + 1) - x) + -g * (Y (k + 1) - y) = -(jD Y y k * (X (k + 1) - x) + g * (Y (k + 1) - y)) by grind, e2]; exact m
          · rw [show -jD Y y k * (jD Y y j * X k - (jD Y y j * x + jN X Y x y j)) + -g * (jD Y y j * Y k - jD Y y j * y) = jD Y y j * -(jD Y y k * (X k - x) + g * (Y k - y)) + jD Y y k * jN X Y x y j by grind, e1]; omega
          · rw [show -jD Y y k * (jD Y y j * X (k + 1) - (jD Y y j * x + jN X Y x y j)) + -g * (jD Y y j * Y (k + 1) - jD Y y j * y) = jD Y y j * -(jD Y y k * (X (k + 1) - x) + g * (Y (k + 1) - y)) + jD Y y k * jN X Y x y j by grind, e2]; omega
      · unfold jC crosses at c
        rcases Int.lt_or_le (Y k) y with q | q
        · have m1 := Int.mul_pos hD (show 0 < y - Y k by omega)
          have m2 := Int.mul_pos hD (show 0 < y - Y (k + 1) by omega)
          exact ⟨0, -1, by grind, by grind, by grind, by grind⟩
        · have m1 := Int.mul_pos hD (show 0 < Y k - y by omega)
          have m2 := Int.mul_pos hD (show 0 < Y (k + 1) - y by omega)
          exact ⟨0, 1, by grind, by grind, by grind, by grind⟩
    obtain ⟨p1, p2, p3⟩ := nat_pos cj
    have i1 : j + (n - 1) + 1 = j + n := by omega
    have i2 : j + (n - 1) + 2 = j + 1 + n := by omega
    have w := wn_near (h.scale hD) (i := j + (n - 1)) (al := ((Y (j + 1) - y).natAbs : Int)) (be := ((Y j - y).natAbs : Int)) (cx := jD Y y j * x + jN X Y x y j) (qx := jD Y y j * x) (qy := jD Y y j * y) p2 p1
      (by
        rw [i1, i2, h.px, h.px]
        have eD : jD Y y j = ((Y j - y).natAbs : Int) + ((Y (j + 1) - y).natAbs : Int) := rfl
        have eN : jN X Y x y j = ((Y (j + 1) - y).natAbs : Int) * (X j - x) + ((Y j - y).natAbs : Int) * (X (j + 1) - x) := rfl
        rw [eN]
        grind)
      (by
        rw [i1, i2, h.py, h.py]
        have eD : jD Y y j = ((Y j - y).natAbs : Int) + ((Y (j + 1) - y).natAbs : Int) := rfl
        grind)
      (by omega)
      (by
        intro e
        exact hr _ (Int.eq_of_mul_eq_mul_left (show jD Y y j ≠ 0 by omega) e))
      (by
        intro e
        exact hr _ (Int.eq_of_mul_eq_mul_left (show jD Y y j ≠ 0 by omega) e))
      (by
        intro t ht ht2
        by_cases q : t < 2 * n
        · have := near (t - n) (by omega) (by omega)
          rw [← h.px (t - n), ← h.py (t - n), ← h.px (t - n + 1), ← h.py (t - n + 1), show t - n + 1 + n = t + 1 by omega, show t - n + n = t by omega] at this
          exact this
        · have := near (t - n - n) (by omega) (by omega)
          rw [← h.px (t - n - n), ← h.py (t - n - n), ← h.px (t - n - n + 1), ← h.py (t - n - n + 1), show t - n - n + 1 + n = t - n + 1 by omega, show t - n - n + n = t - n by omega,
            ← h.px (t - n), ← h.py (t - n), ← h.px (t - n + 1), ← h.py (t - n + 1), show t - n + 1 + n = t + 1 by omega, show t - n + n = t by omega] at this
          exact this)
    rw [wn_scale hD, wl_scale hD, wl_all h] at w
    rw [i1, i2, h.py, h.py] at w
    rcases cj with ⟨a, b⟩ | ⟨a, b⟩
    · exact .inl (w.1 (Int.mul_lt_mul_of_pos_left (by omega) hD))
    · exact .inr (w.2 (Int.mul_lt_mul_of_pos_left (by omega) hD))
/-- Off all sides, the number is that of the left of the sides, or one less, or 0. -/
theorem wn_off {n : Nat} {X Y : Nat → Int} (h : Simple n X Y) {x y : Int} (ho : Offs n X Y x y) : wn n X Y x y = 0 ∨ wn n X Y x y = wl n X Y 0 ∨ wn n X Y x y = wl n X Y 0 - 1 := by
  obtain ⟨K, h1, e, o⟩ := row_free h.px h.py ho
  have hK : 0 < K := by omega
  have := wn_row (h.scale hK) (fun j => by
    intro e
    have : K * (Y j - y) = 1 := by rw [Int.mul_sub]; omega
    have d : K ∣ 1 := ⟨_, this.symm⟩
    have := Int.le_of_dvd (by omega) d
    omega) o
  rw [e, wl_scale hK] at this
  exact this
end Go.Proofs.Ytgdhgncdpmalcaa.Geo
namespace Go.Proofs.Ytgdhgncdpmalcaa.Geo
open Go.Proofs.Ytgdhgncdpmalcaa.Pure
set_option linter.unusedVariables false
theorem sgn_pos {x : Int} (h : 0 < x) : sgn x = 1 := by unfold sgn; rw [if_neg (by omega), if_pos (by omega)]
theorem sgn_neg {x : Int} (h : x < 0) : sgn x = -1 := by unfold sgn; rw [if_pos h]
theorem sgn_zero : sgn 0 = 0 := rfl
theorem sgn_opp' (x : Int) : sgn (-x) = -sgn x := by unfold sgn; repeat' split
                                                     all_goals omega
/-- Four times the half crossing of a side, seen from a point: u and v lead to its ends. -/
def g4 (a b c d : Int) : Int := ((sgn d - sgn b).natAbs : Int) * sgn (cro a b c d)
/-- Which of four rays a direction has passed. -/
def Phi (a b : Int) : Int := if 0 < b then 0 else if b < 0 then 2 else if a < 0 then 1 else 3
theorem g4_cr {a b c d : Int} (h : Fwd a b c d) : g4 a b c d = 4 * cr a b c d + Phi c d - Phi a b := by
  obtain ⟨x, y, h1, h2⟩ := h
  have k1 : d * (x * a + y * b) - b * (x * c + y * d) = x * cro a b c d := by unfold cro; grind
  have z1 : ¬ (a = 0 ∧ b = 0) := fun ⟨p, q⟩ => by subst p; subst q; simp at h1
  have z2 : ¬ (c = 0 ∧ d = 0) := fun ⟨p, q⟩ => by subst p; subst q; simp at h2
  rcases Int.lt_trichotomy b 0 with hb | hb | hb
  · rcases Int.lt_trichotomy d 0 with hd | hd | hd
    · unfold g4 cr Phi
      rw [sgn_neg hb, sgn_neg hd, if_pos (show low a b by unfold low; omega), if_pos (show low c d by unfold low; omega), if_neg (by omega), if_pos hd, if_neg (by omega), if_pos hb]; simp
    · subst hd
      rcases Int.lt_trichotomy c 0 with hc | hc | hc
      · have m := Int.mul_pos (show 0 < -b by omega) (show 0 < -c by omega)
        have e : cro a b c 0 < 0 := by unfold cro; rw [Int.neg_mul_neg] at m; omega
        unfold g4 cr Phi
        rw [sgn_neg hb, sgn_neg e, sgn_zero, if_pos (show low a b by unfold low; omega), if_neg (show ¬ low c 0 by unfold low; omega), if_neg (by omega)]
        simp; omega
      · omega
      · have m := Int.mul_pos (show 0 < -b by omega) hc
        have e : 0 < cro a b c 0 := by unfold cro; rw [Int.neg_mul] at m; omega
        unfold g4 cr Phi
        rw [sgn_neg hb, sgn_pos e, sgn_zero, if_pos (show low a b by unfold low; omega), if_pos (show low c 0 by unfold low; omega)]
        simp; omega
    · have ne : cro a b c d ≠ 0 := fun z => by
        rw [z] at k1
        have m1 := Int.mul_pos hd h1
        have m2 := Int.mul_pos (show 0 < -b by omega) h2
        rw [Int.neg_mul] at m2; omega
      unfold g4 cr Phi
      rw [sgn_neg hb, sgn_pos hd, if_pos (show low a b by unfold low; omega), if_neg (show ¬ low c d by unfold low; omega)]
      rcases Int.lt_or_le 0 (cro a b c d) with e | e
      · rw [sgn_pos e]; simp; omega
      · rw [sgn_neg (by omega)]; simp; omega
  · subst hb
    rcases Int.lt_trichotomy d 0 with hd | hd | hd
    · rcases Int.lt_trichotomy a 0 with ha | ha | ha
      · have m := Int.mul_pos (show 0 < -a by omega) (show 0 < -d by omega)
        have e : 0 < cro a 0 c d := by unfold cro; rw [Int.neg_mul_neg] at m; omega
        unfold g4 cr Phi
        rw [sgn_neg hd, sgn_pos e, sgn_zero, if_neg (show ¬ low a 0 by unfold low; omega), if_pos (show low c d by unfold low; omega), if_neg (by omega)]
        simp; omega
      · omega
      · have m := Int.mul_pos ha (show 0 < -d by omega)
        have e : cro a 0 c d < 0 := by unfold cro; rw [Int.mul_neg] at m; omega
        unfold g4 cr Phi
        rw [sgn_neg hd, sgn_neg e, sgn_zero, if_pos (show low a 0 by unfold low; omega), if_pos (show low c d by unfold low; omega)]
        simp; omega
    · subst hd
      have e : cro a 0 c 0 = 0 := by unfold cro; simp
      simp at h1 h2
      have s : (0 < a ∧ 0 < c) ∨ (a < 0 ∧ c < 0) := by
        rcases Int.lt_trichotomy x 0 with hx | hx | hx
        · right
          constructor
          · apply Classical.byContradiction; intro k
            have := Int.mul_nonneg (show 0 ≤ -x by omega) (show 0 ≤ a by omega); rw [Int.neg_mul] at this; omega
          · apply Classical.byContradiction; intro k
            have := Int.mul_nonneg (show 0 ≤ -x by omega) (show 0 ≤ c by omega); rw [Int.neg_mul] at this; omega
        · subst hx; simp at h1
        · left
          exact ⟨pos_of_mul' h1 (Int.le_of_lt hx), pos_of_mul' h2 (Int.le_of_lt hx)⟩
      unfold g4 cr Phi
      rw [e, sgn_zero]
      rcases s with ⟨p, q⟩ | ⟨p, q⟩
      · rw [if_pos (show low a 0 by unfold low; omega), if_pos (show low c 0 by unfold low; omega)]
        simp; omega
      · rw [if_neg (show ¬ low a 0 by unfold low; omega), if_neg (show ¬ low c 0 by unfold low; omega)]
        simp; omega
    · rcases Int.lt_trichotomy a 0 with ha | ha | ha
      · have m := Int.mul_pos (show 0 < -a by omega) hd
        have e : cro a 0 c d < 0 := by unfold cro; rw [Int.neg_mul] at m; omega
        unfold g4 cr Phi
        rw [sgn_pos hd, sgn_neg e, sgn_zero, if_neg (show ¬ low a 0 by unfold low; omega), if_neg (show ¬ low c d by unfold low; omega)]
        simp; omega
      · omega
      · have m := Int.mul_pos ha hd
        have e : 0 < cro a 0 c d := by unfold cro; omega
        unfold g4 cr Phi
        rw [sgn_pos hd, sgn_pos e, sgn_zero, if_pos (show low a 0 by unfold low; omega), if_neg (show ¬ low c d by unfold low; omega), if_pos e]
        simp; omega
  · rcases Int.lt_trichotomy d 0 with hd | hd | hd
    · have ne : cro a b c d ≠ 0 := fun z => by
        rw [z] at k1
        have m1 := Int.mul_pos (show 0 < -d by omega) h1
        have m2 := Int.mul_pos hb h2
        rw [Int.neg_mul] at m1; omega
      unfold g4 cr Phi
      rw [sgn_pos hb, sgn_neg hd, if_neg (show ¬ low a b by unfold low; omega), if_pos (show low c d by unfold low; omega)]
      rcases Int.lt_or_le 0 (cro a b c d) with e | e
      · rw [sgn_pos e]; simp; omega
      · rw [sgn_neg (by omega)]; simp; omega
    · subst hd
      rcases Int.lt_trichotomy c 0 with hc | hc | hc
      · have m := Int.mul_pos hb (show 0 < -c by omega)
        have e : 0 < cro a b c 0 := by unfold cro; rw [Int.mul_neg] at m; omega
        unfold g4 cr Phi
        rw [sgn_pos hb, sgn_pos e, sgn_zero, if_neg (show ¬ low a b by unfold low; omega), if_neg (show ¬ low c 0 by unfold low; omega)]
        simp; omega
      · omega
      · have m := Int.mul_pos hb hc
        have e : cro a b c 0 < 0 := by unfold cro; omega
        unfold g4 cr Phi
        rw [sgn_pos hb, sgn_neg e, sgn_zero, if_neg (show ¬ low a b by unfold low; omega), if_pos (show low c 0 by unfold low; omega), if_pos e]
        simp; omega
    · unfold g4 cr Phi
      rw [sgn_pos hb, sgn_pos hd, if_neg (show ¬ low a b by unfold low; omega), if_neg (show ¬ low c d by unfold low; omega), if_pos hd, if_pos hb]; simp
/-! sums of a side -/
theorem sm_mul (lo k : Nat) (c : Int) (f : Nat → Int) : sm lo k (fun j => c * f j) = c * sm lo k f := by
  induction k with
  | zero => simp [sm]
  | succ k ih => simp only [sm]; rw [ih, Int.mul_add]
theorem sm_swp (a b lo lo' : Nat) (F : Nat → Nat → Int) : sm lo a (fun i => sm lo' b (F i)) = sm lo' b (fun k => sm lo a (fun i => F i k)) := by
  induction a with
  | zero => exact (sm_zero (fun _ _ _ => rfl)).symm
  | succ a ih =>
    simp only [sm]
    rw [ih, sm_add]
section
variable (ax ay bx b_y : Int)
def fc (x y : Int) : Int := sgn (cro (ax - x) (ay - y) (bx - x) (b_y - y))
def row (N : Nat) (y t : Int) : Int := sm 0 N (fun j => fc ax ay bx b_y (t + j) y)
end
theorem row_slide1 {ax ay bx b_y y t : Int} {N : Nat} (hu : ay < b_y) (h1 : ay ≤ y) (h2 : y ≤ b_y) (t1 : t < ax) (t2 : t < bx) (t3 : ax < t + N) (t4 : bx < t + N) :
    row ax ay bx b_y N y t = row ax ay bx b_y N y (t + 1) + 2 := by
  have e := sm_tele 0 N (fun j => fc ax ay bx b_y (t + j) y)
  rw [sm_sub] at e
  have e2 : sm 0 N (fun j => fc ax ay bx b_y (t + ((j + 1 : Nat) : Int)) y) = row ax ay bx b_y N y (t + 1) := sm_congr (fun j _ _ => by rw [show t + ((j + 1 : Nat) : Int) = t + 1 + j by omega])
  have pos : ∀ x, x < ax → x < bx → fc ax ay bx b_y x y = 1 := fun x q1 q2 => by
    refine sgn_pos ?_
    unfold cro
    rcases Int.lt_or_le y b_y with g | g
    · have m1 := Int.mul_pos (show 0 < ax - x by omega) (show 0 < b_y - y by omega)
      have m2 := Int.mul_nonneg (show 0 ≤ -(ay - y) by omega) (show 0 ≤ bx - x by omega)
      rw [Int.neg_mul] at m2; omega
    · have m1 := Int.mul_nonneg (show 0 ≤ ax - x by omega) (show 0 ≤ b_y - y by omega)
      have m2 := Int.mul_pos (show 0 < -(ay - y) by omega) (show 0 < bx - x by omega)
      rw [Int.neg_mul] at m2; omega
  have neg : ∀ x, ax < x → bx < x → fc ax ay bx b_y x y = -1 := fun x q1 q2 => by
    refine sgn_neg ?_
    unfold cro
    rcases Int.lt_or_le y b_y with g | g
    · have m1 := Int.mul_pos (show 0 < -(ax - x) by omega) (show 0 < b_y - y by omega)
      have m2 := Int.mul_nonneg (show 0 ≤ -(ay - y) by omega) (show 0 ≤ -(bx - x) by omega)
      rw [Int.neg_mul_neg] at m2; rw [Int.neg_mul] at m1; omega
    · have m1 := Int.mul_nonneg (show 0 ≤ -(ax - x) by omega) (show 0 ≤ b_y - y by omega)
      have m2 := Int.mul_pos (show 0 < -(ay - y) by omega) (show 0 < -(bx - x) by omega)
      rw [Int.neg_mul_neg] at m2; rw [Int.neg_mul] at m1; omega
  rw [e2, pos (t + ((0 : Nat) : Int)) (by omega) (by omega), neg (t + ((0 + N : Nat) : Int)) (by omega) (by omega)] at e
  have e3 : sm 0 N (fun j => fc ax ay bx b_y (t + (j : Int)) y) = row ax ay bx b_y N y t := rfl
  rw [e3] at e
  omega
theorem row_slide {ax ay bx b_y y t : Int} {N : Nat} (hu : ay < b_y) (h1 : ay ≤ y) (h2 : y ≤ b_y) (t3 : ax < t + N) (t4 : bx < t + N) (k : Nat) (t1 : t + k ≤ ax) (t2 : t + k ≤ bx) :
    row ax ay bx b_y N y t = row ax ay bx b_y N y (t + k) + 2 * k := by
  induction k with
  | zero => simp
  | succ k ih =>
    have e := ih (by rw [Int.natCast_add] at t1; omega) (by rw [Int.natCast_add] at t2; omega)
    have s := row_slide1 (N := N) (t := t + k) (ax := ax) (bx := bx) hu h1 h2 (by omega) (by omega) (by omega) (by omega)
    rw [show t + ((k + 1 : Nat) : Int) = t + k + 1 by omega]
    omega
theorem row_diff {ax ay bx b_y y B : Int} {M : Nat} (hu : ay < b_y) (h1 : ay ≤ y) (h2 : y ≤ b_y) (ha : -B ≤ ax ∧ ax ≤ B) (hb : -B ≤ bx ∧ bx ≤ B) (hM : 4 * B ≤ M) :
    row ax ay bx b_y (2 * M + 1) y (-M) = row ax ay bx b_y (2 * M + 1) y (ax + bx - M) + 2 * (ax + bx) := by
  rcases Int.le_total 0 (ax + bx) with q | q
  · have := row_slide (N := 2 * M + 1) (t := -M) (ax := ax) (bx := bx) hu h1 h2 (by omega) (by omega) (ax + bx).toNat (by omega) (by omega)
    rw [show -(M : Int) + ((ax + bx).toNat : Int) = ax + bx - M by omega, show ((ax + bx).toNat : Int) = ax + bx by omega] at this
    exact this
  · have := row_slide (N := 2 * M + 1) (t := ax + bx - M) (ax := ax) (bx := bx) hu h1 h2 (by omega) (by omega) (-(ax + bx)).toNat (by omega) (by omega)
    rw [show ax + bx - M + ((-(ax + bx)).toNat : Int) = -M by omega, show ((-(ax + bx)).toNat : Int) = -(ax + bx) by omega] at this
    omega
theorem row_refl {ax ay bx b_y y : Int} {M : Nat} : row ax ay bx b_y (2 * M + 1) y (-M) = -row ax ay bx b_y (2 * M + 1) (ay + b_y - y) (ax + bx - M) := by
  unfold row
  rw [← sm_neg, ← sm_rev]
  refine sm_congr (fun j _ hj => ?_)
  unfold fc
  rw [← sgn_opp']
  congr 1
  rw [show ((2 * M + 1 - 1 - j : Nat) : Int) = 2 * M - j by omega]
  unfold cro; grind
def wS (ay b_y y : Int) : Int := ((sgn (b_y - y) - sgn (ay - y)).natAbs : Int)
theorem wS_sum {ay : Int} {k : Nat} (hk : 0 < k) : sm 0 (k + 1) (fun i => wS ay (ay + k) (ay + i)) = 2 * k := by
  have e : sm 0 (k + 1) (fun i => wS ay (ay + k) (ay + i)) = sm 0 (k + 1) (fun i => (fun i : Nat => if i = 0 then (0 : Int) else if i ≤ k then 2 * i - 1 else 2 * k) (i + 1) - (fun i : Nat => if i = 0 then (0 : Int) else if i ≤ k then 2 * i - 1 else 2 * k) i) :=
    sm_congr (fun i _ hi => by
      unfold wS
      dsimp only
      rw [show ay + (k : Int) - (ay + i) = k - i by omega, show ay - (ay + (i : Int)) = -i by omega]
      by_cases c : i = 0
      · subst c
        rw [sgn_pos (by omega), if_neg (by omega), if_pos (by omega), if_pos rfl]; simp [sgn]
      · rw [sgn_neg (x := -(i : Int)) (by omega), if_neg (by omega), if_neg c]
        by_cases d : i = k
        · subst d
          rw [if_neg (by omega), if_pos (by omega), Int.sub_self, sgn_zero]; omega
        · rw [if_pos (by omega), if_pos (by omega), sgn_pos (by omega)]; omega)
  rw [e, sm_tele 0 (k + 1) (fun i : Nat => if i = 0 then (0 : Int) else if i ≤ k then 2 * i - 1 else 2 * k)]
  rw [if_neg (by omega), if_neg (by omega), if_pos rfl]
  omega
/-- The sum over the lattice from -M to M. -/
def lat (M : Nat) (F : Int → Int → Int) : Int := sm 0 (2 * M + 1) (fun i => sm 0 (2 * M + 1) (fun j => F (-M + j) (-M + i)))
def gS (ax ay bx b_y x y : Int) : Int := g4 (ax - x) (ay - y) (bx - x) (b_y - y)
theorem gS_swap (ax ay bx b_y x y : Int) : gS bx b_y ax ay x y = -gS ax ay bx b_y x y := by
  unfold gS g4
  rw [cro_swap (ax - x) (ay - y), sgn_opp', Int.mul_neg, show (sgn (ay - y) - sgn (b_y - y)).natAbs = (sgn (b_y - y) - sgn (ay - y)).natAbs by omega]
theorem lat_neg (M : Nat) (F : Int → Int → Int) : lat M (fun x y => -F x y) = -lat M F := by
  unfold lat; rw [← sm_neg]; exact sm_congr (fun i _ _ => sm_neg _ _ _)
theorem lat_up {ax ay bx b_y B : Int} {M : Nat} (hu : ay < b_y) (ha : -B ≤ ax ∧ ax ≤ B) (hb : -B ≤ bx ∧ bx ≤ B) (ha' : -B ≤ ay ∧ ay ≤ B) (hb' : -B ≤ b_y ∧ b_y ≤ B) (hM : 4 * B ≤ M) :
    lat M (gS ax ay bx b_y) = 2 * (ax + bx) * (b_y - ay) := by
  obtain ⟨k, rfl⟩ : ∃ k : Nat, b_y = ay + k := ⟨(b_y - ay).toNat, by omega⟩
  have hk : 0 < k := by omega
  obtain ⟨p, hp⟩ : ∃ p : Nat, (p : Int) = ay + M := ⟨(ay + M).toNat, by omega⟩
  have r : ∀ i, sm 0 (2 * M + 1) (fun j => gS ax ay bx (ay + k) (-M + j) (-M + i)) = wS ay (ay + k) (-M + i) * row ax ay bx (ay + k) (2 * M + 1) (-M + i) (-M) := fun i => by
    unfold row; rw [← sm_mul]; rfl
  have e0 : lat M (gS ax ay bx (ay + k)) = sm 0 (2 * M + 1) (fun i => wS ay (ay + k) (-M + i) * row ax ay bx (ay + k) (2 * M + 1) (-M + i) (-M)) := sm_congr (fun i _ _ => r i)
  rw [e0]
  obtain ⟨q, hq⟩ : ∃ q, 2 * M + 1 = p + ((k + 1) + q) := ⟨2 * M - p - k, by omega⟩
  have e1 : ∀ F : Nat → Int, (∀ i, i < p → F i = 0) → (∀ i, p + k < i → F i = 0) → sm 0 (2 * M + 1) F = sm 0 (k + 1) (fun i => F (p + i)) := by
    intro F h1 h2
    rw [hq, sm_split, sm_split, sm_zero (fun j _ hj => h1 j (by omega)), sm_zero (lo := 0 + p + (k + 1)) (fun j hj _ => h2 j (by omega)), Nat.zero_add, sm_sh]
    omega
  rw [e1 _ (fun i hi => by
      have : wS ay (ay + k) (-M + i) = 0 := by unfold wS; rw [sgn_pos (by omega), sgn_pos (by omega)]; rfl
      rw [this, Int.zero_mul]) (fun i hi => by
      have : wS ay (ay + k) (-M + i) = 0 := by unfold wS; rw [sgn_neg (by omega), sgn_neg (by omega)]; rfl
      rw [this, Int.zero_mul])]
  have e2 : ∀ i : Nat, -(M : Int) + ((p + i : Nat) : Int) = ay + i := fun i => by omega
  simp only [e2]
  have s1 : sm 0 (k + 1) (fun i => wS ay (ay + k) (ay + i) * row ax ay bx (ay + k) (2 * M + 1) (ay + i) (-M)) =
      -sm 0 (k + 1) (fun i => wS ay (ay + k) (ay + i) * row ax ay bx (ay + k) (2 * M + 1) (ay + i) (ax + bx - M)) := by
    rw [← sm_neg, ← sm_rev (k + 1) (fun i => -(wS ay (ay + k) (ay + i) * row ax ay bx (ay + k) (2 * M + 1) (ay + i) (ax + bx - M)))]
    refine sm_congr (fun i _ hi => ?_)
    have w : wS ay (ay + k) (ay + ((k + 1 - 1 - i : Nat) : Int)) = wS ay (ay + k) (ay + i) := by
      unfold wS
      rw [show ay + (k : Int) - (ay + ((k + 1 - 1 - i : Nat) : Int)) = i by omega, show ay - (ay + ((k + 1 - 1 - i : Nat) : Int)) = -(k - i) by omega, show ay + (k : Int) - (ay + i) = k - i by omega, show ay - (ay + (i : Int)) = -i by omega, sgn_opp', sgn_opp']
      omega
    rw [w, row_refl, show ay + (ay + (k : Int)) - (ay + i) = ay + ((k + 1 - 1 - i : Nat) : Int) by omega, Int.mul_neg]
  have s2 : sm 0 (k + 1) (fun i => wS ay (ay + k) (ay + i) * row ax ay bx (ay + k) (2 * M + 1) (ay + i) (-M)) =
      sm 0 (k + 1) (fun i => wS ay (ay + k) (ay + i) * row ax ay bx (ay + k) (2 * M + 1) (ay + i) (ax + bx - M)) + 2 * (ax + bx) * (2 * k) := by
    rw [← wS_sum hk, ← sm_mul, ← sm_add]
    refine sm_congr (fun i _ hi => ?_)
    rw [row_diff (B := B) (by omega) (by omega) (by omega) ha hb hM]
    rw [Int.mul_add, Int.mul_comm (2 * (ax + bx))]
  rw [show ay + (k : Int) - ay = k by omega]
  have : 2 * (ax + bx) * (2 * (k : Int)) = 2 * (2 * (ax + bx) * k) := by grind
  omega
theorem lat_side {ax ay bx b_y B : Int} {M : Nat} (ha : -B ≤ ax ∧ ax ≤ B) (hb : -B ≤ bx ∧ bx ≤ B) (ha' : -B ≤ ay ∧ ay ≤ B) (hb' : -B ≤ b_y ∧ b_y ≤ B) (hM : 4 * B ≤ M) :
    lat M (gS ax ay bx b_y) = 2 * (ax + bx) * (b_y - ay) := by
  rcases Int.lt_trichotomy ay b_y with q | q | q
  · exact lat_up q ha hb ha' hb' hM
  · subst q
    rw [Int.sub_self, Int.mul_zero]
    unfold lat
    refine sm_zero (fun i _ _ => sm_zero (fun j _ _ => ?_))
    unfold gS g4
    rw [Int.sub_self]; simp
  · have e := lat_up q hb ha hb' ha' hM
    have : lat M (gS bx b_y ax ay) = -lat M (gS ax ay bx b_y) := by
      rw [← lat_neg]
      unfold lat
      exact sm_congr (fun i _ _ => sm_congr (fun j _ _ => gS_swap _ _ _ _ _ _))
    rw [this] at e
    have : 2 * (ax + bx) * (b_y - ay) = -(2 * (bx + ax) * (ay - b_y)) := by grind
    omega
/-- Four times the half crossings of a polygon. -/
def c4 (n : Nat) (X Y : Nat → Int) (x y : Int) : Int := sm 0 n (fun j => gS (X j) (Y j) (X (j + 1)) (Y (j + 1)) x y)
def areaI (n : Nat) (X Y : Nat → Int) : Int := sm 0 n (fun i => X i * Y (i + 1) - X (i + 1) * Y i)
theorem lat_area {n : Nat} {X Y : Nat → Int} (px : X n = X 0) (py : Y n = Y 0) {B : Int} {M : Nat} (hX : ∀ i, -B ≤ X i ∧ X i ≤ B) (hY : ∀ i, -B ≤ Y i ∧ Y i ≤ B) (hM : 4 * B ≤ M) : lat M (c4 n X Y) = 2 * areaI n X Y := by
  have e : lat M (c4 n X Y) = sm 0 n (fun j => lat M (gS (X j) (Y j) (X (j + 1)) (Y (j + 1)))) := by
    unfold lat c4
    rw [← sm_swp (2 * M + 1) n 0 0 (fun i j => sm 0 (2 * M + 1) (fun t => gS (X j) (Y j) (X (j + 1)) (Y (j + 1)) (-M + t) (-M + i)))]
    exact sm_congr (fun i _ _ => sm_swp _ _ _ _ _)
  rw [e]
  have e2 : sm 0 n (fun j => lat M (gS (X j) (Y j) (X (j + 1)) (Y (j + 1)))) = sm 0 n (fun j => 2 * (X j * Y (j + 1) - X (j + 1) * Y j) + ((fun j => 2 * (X j * Y j)) (j + 1) - (fun j => 2 * (X j * Y j)) j)) :=
    sm_congr (fun j _ _ => by rw [lat_side (hX j) (hX (j + 1)) (hY j) (hY (j + 1)) hM]; grind)
  rw [e2, sm_add, sm_tele 0 n (fun j => 2 * (X j * Y j)), sm_mul, Nat.zero_add, px, py]
  unfold areaI
  omega
end Go.Proofs.Ytgdhgncdpmalcaa.Geo
namespace Go.Proofs.Ytgdhgncdpmalcaa.Geo
set_option linter.unusedVariables false
def turn (X Y : Nat → Int) (i : Nat) : Int := cr (X (i + 1) - X i) (Y (i + 1) - Y i) (X (i + 2) - X (i + 1)) (Y (i + 2) - Y (i + 1))
theorem Simple.shift {n : Nat} {X Y : Nat → Int} (h : Simple n X Y) (k : Nat) : Simple n (fun i => X (i + k)) (fun i => Y (i + k)) := by
  refine ⟨h.n3, fun i => by rw [show i + n + k = i + k + n by omega, h.px], fun i => by rw [show i + n + k = i + k + n by omega, h.py], fun i j a b => ?_, fun i => ?_⟩
  · have := h.sep (i + k) (j + k) (by omega) (by omega)
    rw [show i + k + 1 = i + 1 + k by omega, show j + k + 1 = j + 1 + k by omega] at this
    exact this
  · have := h.fwd (i + k)
    rw [show i + k + 1 = i + 1 + k by omega, show i + k + 2 = i + 2 + k by omega] at this
    exact this
/-- The secants to a corner from two corners that follow each other. -/
def back (X Y : Nat → Int) (m i : Nat) : Int := cr (X m - X i) (Y m - Y i) (X m - X (i + 1)) (Y m - Y (i + 1))
theorem turns_step {n : Nat} {X Y : Nat → Int} (h : Simple n X Y) (lo k : Nat) (hk : lo + k + 3 ≤ lo + n) (hn : lo + k + 3 ≤ n + lo) :
    sm lo (k + 1) (back X Y (lo + k + 2)) + cr (X (lo + k + 1) - X lo) (Y (lo + k + 1) - Y lo) (X (lo + k + 2) - X lo) (Y (lo + k + 2) - Y lo) =
    sm lo k (back X Y (lo + k + 1)) + turn X Y (lo + k) := by
  have c := sm_cells (lo := lo) (k := k) (f := back X Y (lo + k + 1)) (g := back X Y (lo + k + 2))
    (h := fun i => cr (X (lo + k + 1) - X i) (Y (lo + k + 1) - Y i) (X (lo + k + 2) - X i) (Y (lo + k + 2) - Y i)) (fun j a b => by
      have := cell (h.sep j (lo + k + 1) (by omega) (by omega))
      unfold back
      simp only [Nat.add_assoc, Nat.reduceAdd] at this ⊢
      omega)
  have t := tri' (h.fwd (lo + k)) (s := X (lo + k + 2) - X (lo + k)) (t := Y (lo + k + 2) - Y (lo + k)) (by omega) (by omega)
  rw [sm]
  unfold turn
  have b : back X Y (lo + k + 2) (lo + k) = cr (X (lo + k + 2) - X (lo + k)) (Y (lo + k + 2) - Y (lo + k)) (X (lo + k + 2) - X (lo + k + 1)) (Y (lo + k + 2) - Y (lo + k + 1)) := rfl
  rw [b]
  omega
theorem turns {n : Nat} {X Y : Nat → Int} (h : Simple n X Y) (k : Nat) (hk : k + 2 ≤ n) : sm 1 k (side X Y (X 0) (Y 0)) + sm 0 k (back X Y (k + 1)) = sm 0 k (turn X Y) := by
  induction k with
  | zero => rfl
  | succ k ih =>
    have e := ih (by omega)
    have s := turns_step h 0 k (by omega) (by omega)
    have e2 : sm 0 (k + 1) (turn X Y) = sm 0 k (turn X Y) + turn X Y (0 + k) := rfl
    rw [sm, e2]
    simp only [Nat.zero_add] at s ⊢
    have b : side X Y (X 0) (Y 0) (1 + k) = cr (X (k + 1) - X 0) (Y (k + 1) - Y 0) (X (k + 2) - X 0) (Y (k + 2) - Y 0) := by rw [Nat.add_comm 1 k]; rfl
    rw [b]
    have a : k + 1 + 1 = k + 2 := rfl
    rw [a]
    omega
theorem cr_high {a b c d : Int} (h1 : ¬ low a b) (h2 : ¬ low c d) : cr a b c d = 0 := by unfold cr; rw [if_neg h1, if_neg h2]
theorem cr_deep {a b c d : Int} (h1 : ¬ low a b) (h2 : ¬ low c d) : cr (-a) (-b) (-c) (-d) = 0 := by
  by_cases z1 : a = 0 ∧ b = 0
  · apply cr_zero; rw [z1.1, z1.2]; unfold cro; simp
  · by_cases z2 : c = 0 ∧ d = 0
    · apply cr_zero; rw [z2.1, z2.2]; unfold cro; simp
    · unfold cr; rw [if_pos ((low_neg z1).2 h1), if_pos ((low_neg z2).2 h2)]
theorem rot_low {n : Nat} {X Y : Nat → Int} (h : Simple n X Y) (hl : ∀ j, ¬ low (X j - X 0) (Y j - Y 0)) : sm 0 n (turn X Y) = 2 * wl n X Y 0 - 1 := by
  have n3 := h.n3
  obtain ⟨m, rfl⟩ : ∃ m, n = m + 3 := ⟨n - 3, by omega⟩
  have pX : ∀ i, X (m + 3 + i) = X i := fun i => by rw [Nat.add_comm]; exact h.px i
  have pY : ∀ i, Y (m + 3 + i) = Y i := fun i => by rw [Nat.add_comm]; exact h.py i
  have e := turns h (m + 1) (by omega)
  have s := turns_step h 1 m (by omega) (by omega)
  have a0 : sm 1 (m + 1) (side X Y (X 0) (Y 0)) = 0 := sm_zero (fun j _ _ => cr_high (hl _) (hl _))
  have b0 : sm 1 (m + 1) (back X Y (1 + m + 2)) = 0 := sm_zero (fun j _ _ => by
    unfold back
    rw [show 1 + m + 2 = m + 3 + 0 by omega, pX, pY]
    rw [show X 0 - X j = -(X j - X 0) by omega, show Y 0 - Y j = -(Y j - Y 0) by omega, show X 0 - X (j + 1) = -(X (j + 1) - X 0) by omega, show Y 0 - Y (j + 1) = -(Y (j + 1) - Y 0) by omega]
    exact cr_deep (hl _) (hl _))
  rw [a0, sm_first] at e
  rw [sm, sm]
  rw [b0] at s
  have fw := h.fwd (m + 2)
  have w := wl_all h (m + 2)
  have b1 : back X Y (m + 1 + 1) 0 = cr (X (m + 2) - X 0) (Y (m + 2) - Y 0) (X (m + 2) - X 1) (Y (m + 2) - Y 1) := rfl
  rw [b1] at e
  have q0 : X (m + 2 + 1) = X 0 := pX 0
  have q1 : Y (m + 2 + 1) = Y 0 := pY 0
  have q2 : X (m + 2 + 2) = X 1 := pX 1
  have q3 : Y (m + 2 + 2) = Y 1 := pY 1
  rw [q0, q1, q2, q3] at fw
  have o : open_ (m + 3) X Y (m + 2 + 1) = 0 := sm_zero (fun j _ _ => by unfold side; rw [q0, q1]; exact cr_high (hl _) (hl _))
  have tn : turn X Y (m + 2) = cr (X 0 - X (m + 2)) (Y 0 - Y (m + 2)) (X 1 - X 0) (Y 1 - Y 0) := by unfold turn; rw [q0, q1, q2, q3]
  have wd : wl (m + 3) X Y (m + 2) = cr (-(X 0 - X (m + 2))) (-(Y 0 - Y (m + 2))) (-(X 1 - X 0)) (-(Y 1 - Y 0)) + 1 - L (X 1 - X 0) (Y 1 - Y 0) := by
    unfold wl; rw [o, q0, q1, q2, q3]; omega
  have t := trin fw (s := X (m + 2) - X 1) (t := Y (m + 2) - Y 1) (by omega) (by omega)
  have cn := cr_neg fw
  have l0 : L (X 1 - X 0) (Y 1 - Y 0) = 0 := by unfold L; rw [if_neg (hl _)]
  have l1 : L (X 0 - X (m + 2)) (Y 0 - Y (m + 2)) = 1 := by
    unfold L; rw [if_pos]
    have ne := h.edge (m + 2)
    rw [q0, q1] at ne
    rw [show X 0 - X (m + 2) = -(X (m + 2) - X 0) by omega, show Y 0 - Y (m + 2) = -(Y (m + 2) - Y 0) by omega]
    exact (low_neg (by omega)).2 (hl _)
  have r1 : -(X 0 - X (m + 2)) = X (m + 2) - X 0 := by omega
  have r2 : -(Y 0 - Y (m + 2)) = Y (m + 2) - Y 0 := by omega
  have r3 : -(X 1 - X 0) = X 0 - X 1 := by omega
  have r4 : -(Y 1 - Y 0) = Y 0 - Y 1 := by omega
  rw [r1, r2, r3, r4] at t wd cn
  simp only [Nat.zero_add] at e s ⊢
  have s1 : 1 + m + 1 = m + 2 := by omega
  have s2 : 1 + m + 2 = m + 3 := by omega
  have s3 : 1 + m = m + 1 := by omega
  have s4 : m + 1 + 1 = m + 2 := rfl
  have q4 : X (m + 3) = X 0 := pX 0
  have q5 : Y (m + 3) = Y 0 := pY 0
  rw [s1, s2, s3, q4, q5] at s
  rw [s4] at e
  rw [tn]
  omega
theorem rot_wl {n : Nat} {X Y : Nat → Int} (h : Simple n X Y) : sm 0 n (turn X Y) = 2 * wl n X Y 0 - 1 := by
  have n3 := h.n3
  obtain ⟨m, hm, hl⟩ := lowest X Y (n - 1)
  have all : ∀ j, ¬ low (X j - X m) (Y j - Y m) := fun j => by
    rw [mod_eq' h.px j, mod_eq' h.py j]
    exact hl _ (by have := Nat.mod_lt j (show 0 < n by omega); omega)
  have e := rot_low (h.shift m) (fun j => by
    rw [show 0 + m = m by omega]; exact all (j + m))
  have w : wl n (fun i => X (i + m)) (fun i => Y (i + m)) 0 = wl n X Y m := by
    unfold wl open_
    simp only [Nat.zero_add, Nat.add_comm 1 m, Nat.add_comm 2 m]
    have : sm (1 + 1) (n - 2) (side (fun i => X (i + m)) (fun i => Y (i + m)) (X (m + 1)) (Y (m + 1))) = sm (m + 1 + 1) (n - 2) (side X Y (X (m + 1)) (Y (m + 1))) := by
      have g : ∀ (k lo : Nat) (f : Nat → Int), sm lo k (fun j => f (j + m)) = sm (m + lo) k f := by
        intro k lo f
        induction k with
        | zero => rfl
        | succ k ih => simp only [sm]; rw [ih, show lo + k + m = m + lo + k by omega]
      rw [show m + 1 + 1 = m + (1 + 1) by omega, ← g]
      refine sm_congr (fun j _ _ => ?_)
      unfold side
      dsimp only
      rw [show j + 1 + m = j + m + 1 by omega]
    rw [this]
  rw [w, wl_all h] at e
  rw [← e]
  have p : ∀ i, turn X Y (i + n) = turn X Y i := fun i => by
    unfold turn
    rw [show i + n + 1 = i + 1 + n by omega, show i + n + 2 = i + 2 + n by omega, h.px, h.py, h.px, h.py, h.px, h.py]
  rw [← sm_period p m, sm_sh]
  refine sm_congr (fun j _ _ => ?_)
  unfold turn
  dsimp only
  rw [show m + j = j + m by omega, show j + m + 1 = j + 1 + m by omega, show j + m + 2 = j + 2 + m by omega]
end Go.Proofs.Ytgdhgncdpmalcaa.Geo
namespace Go.Proofs.Ytgdhgncdpmalcaa.Geo
open Go.Proofs.Ytgdhgncdpmalcaa.Pure
set_option linter.unusedVariables false
theorem c4_part {X Y : Nat → Int} {x y : Int} (lo k : Nat) (h : ∀ j, lo ≤ j → j < lo + k → Fwd (X j - x) (Y j - y) (X (j + 1) - x) (Y (j + 1) - y)) :
    sm lo k (fun j => gS (X j) (Y j) (X (j + 1)) (Y (j + 1)) x y) = 4 * sm lo k (side X Y x y) + Phi (X (lo + k) - x) (Y (lo + k) - y) - Phi (X lo - x) (Y lo - y) := by
  have e : sm lo k (fun j => gS (X j) (Y j) (X (j + 1)) (Y (j + 1)) x y) = sm lo k (fun j => 4 * side X Y x y j + ((fun j => Phi (X j - x) (Y j - y)) (j + 1) - (fun j => Phi (X j - x) (Y j - y)) j)) :=
    sm_congr (fun j a b => by
      unfold gS side
      rw [g4_cr (h j a b)]
      dsimp only
      omega)
  rw [e, sm_add, sm_mul, sm_tele lo k (fun j => Phi (X j - x) (Y j - y))]
  omega
theorem c4_off {n : Nat} {X Y : Nat → Int} (px : ∀ i, X (i + n) = X i) (py : ∀ i, Y (i + n) = Y i) {x y : Int} (ho : Offs n X Y x y) : c4 n X Y x y = 4 * wn n X Y x y := by
  have e := c4_part (X := X) (Y := Y) (x := x) (y := y) 0 n (fun j _ b => ho j (by omega))
  have p0 := px 0; have p1 := py 0
  rw [Nat.zero_add] at p0 p1
  rw [Nat.zero_add, p0, p1] at e
  unfold c4 wn
  omega
theorem gS_per {n : Nat} {X Y : Nat → Int} (px : ∀ i, X (i + n) = X i) (py : ∀ i, Y (i + n) = Y i) (x y : Int) (j : Nat) : gS (X (j + n)) (Y (j + n)) (X (j + n + 1)) (Y (j + n + 1)) x y = gS (X j) (Y j) (X (j + 1)) (Y (j + 1)) x y := by
  rw [show j + n + 1 = j + 1 + n by omega, px, py, px, py]
theorem c4_from {n : Nat} {X Y : Nat → Int} (px : ∀ i, X (i + n) = X i) (py : ∀ i, Y (i + n) = Y i) (x y : Int) (lo : Nat) : c4 n X Y x y = sm lo n (fun j => gS (X j) (Y j) (X (j + 1)) (Y (j + 1)) x y) :=
  (sm_period (gS_per px py x y) lo).symm
theorem gS_zero {ax ay bx b_y x y : Int} (h : cro (ax - x) (ay - y) (bx - x) (b_y - y) = 0) : gS ax ay bx b_y x y = 0 := by unfold gS g4; rw [h, sgn_zero, Int.mul_zero]
/-- At a corner. -/
theorem c4_at {n : Nat} {X Y : Nat → Int} (h : Simple n X Y) (i : Nat) : c4 n X Y (X (i + 1)) (Y (i + 1)) = 4 * open_ n X Y (i + 1) + Phi (-(X (i + 1) - X i)) (-(Y (i + 1) - Y i)) - Phi (X (i + 2) - X (i + 1)) (Y (i + 2) - Y (i + 1)) := by
  have n3 := h.n3
  obtain ⟨m, rfl⟩ : ∃ m, n = m + 3 := ⟨n - 3, by omega⟩
  rw [c4_from h.px h.py _ _ (i + 1), sm_first, sm]
  have z1 : gS (X (i + 1)) (Y (i + 1)) (X (i + 1 + 1)) (Y (i + 1 + 1)) (X (i + 1)) (Y (i + 1)) = 0 := gS_zero (by rw [Int.sub_self, Int.sub_self]; unfold cro; simp)
  have q0 : X (i + 1 + 1 + (m + 1)) = X i := by rw [show i + 1 + 1 + (m + 1) = i + (m + 3) by omega]; exact h.px i
  have q1 : Y (i + 1 + 1 + (m + 1)) = Y i := by rw [show i + 1 + 1 + (m + 1) = i + (m + 3) by omega]; exact h.py i
  have q2 : X (i + 1 + 1 + (m + 1) + 1) = X (i + 1) := by rw [show i + 1 + 1 + (m + 1) + 1 = i + 1 + (m + 3) by omega]; exact h.px _
  have q3 : Y (i + 1 + 1 + (m + 1) + 1) = Y (i + 1) := by rw [show i + 1 + 1 + (m + 1) + 1 = i + 1 + (m + 3) by omega]; exact h.py _
  have z2 : gS (X (i + 1 + 1 + (m + 1))) (Y (i + 1 + 1 + (m + 1))) (X (i + 1 + 1 + (m + 1) + 1)) (Y (i + 1 + 1 + (m + 1) + 1)) (X (i + 1)) (Y (i + 1)) = 0 :=
    gS_zero (by rw [q2, q3, Int.sub_self, Int.sub_self]; unfold cro; simp)
  rw [z1, z2]
  have e := c4_part (X := X) (Y := Y) (x := X (i + 1)) (y := Y (i + 1)) (i + 1 + 1) (m + 1) (fun j a b => by
    by_cases c : j = i + 2
    · subst c
      obtain ⟨g, k, h1, h2⟩ := h.fwd (i + 1)
      simp only [Nat.add_assoc, Nat.reduceAdd] at h1 h2 ⊢
      exact ⟨g, k, h1, by rw [show g * (X (i + 3) - X (i + 1)) + k * (Y (i + 3) - Y (i + 1)) = (g * (X (i + 2) - X (i + 1)) + k * (Y (i + 2) - Y (i + 1))) + (g * (X (i + 3) - X (i + 2)) + k * (Y (i + 3) - Y (i + 2))) by grind]; omega⟩
    · obtain ⟨g, k, h1, h2, _, _⟩ := h.sep (i + 1) j (by omega) (by omega)
      exact ⟨g, k, h1, h2⟩)
  rw [q0, q1] at e
  rw [e]
  have o : open_ (m + 3) X Y (i + 1) = sm (i + 1 + 1) (m + 1) (side X Y (X (i + 1)) (Y (i + 1))) := rfl
  rw [o, show X i - X (i + 1) = -(X (i + 1) - X i) by omega, show Y i - Y (i + 1) = -(Y (i + 1) - Y i) by omega]
  simp only [Nat.add_assoc, Nat.reduceAdd]
  omega
theorem phi_neg {a b : Int} (h : ¬ (a = 0 ∧ b = 0)) : 4 * L a b + Phi (-a) (-b) = 2 + Phi a b := by
  unfold L low Phi
  repeat' split
  all_goals omega
theorem c4_corners {n : Nat} {X Y : Nat → Int} (h : Simple n X Y) : sm 0 n (fun i => c4 n X Y (X i) (Y i)) = (2 * wl n X Y 0 - 1) * (2 * n - 4) := by
  have e1 : sm 0 n (fun i => c4 n X Y (X i) (Y i)) = sm 0 n (fun i => c4 n X Y (X (i + 1)) (Y (i + 1))) := by
    rw [← sm_period (n := n) (f := fun i => c4 n X Y (X i) (Y i)) (fun i => by rw [h.px, h.py]) 1, sm_sh]
    exact sm_congr (fun j _ _ => by rw [Nat.add_comm 1 j])
  have e2 : sm 0 n (fun i => c4 n X Y (X (i + 1)) (Y (i + 1))) = sm 0 n (fun i => (4 * wl n X Y 0 - 2) + (-4 * turn X Y i + -((fun i => Phi (X (i + 1) - X i) (Y (i + 1) - Y i)) (i + 1) - (fun i => Phi (X (i + 1) - X i) (Y (i + 1) - Y i)) i))) :=
    sm_congr (fun i _ _ => by
      rw [c4_at h i]
      have w := wl_all h i
      have c := cr_neg (h.fwd i)
      have p := phi_neg (h.edge i)
      have w2 : wl n X Y i = open_ n X Y (i + 1) + cr (-(X (i + 1) - X i)) (-(Y (i + 1) - Y i)) (-(X (i + 2) - X (i + 1))) (-(Y (i + 2) - Y (i + 1))) + 1 - L (X (i + 2) - X (i + 1)) (Y (i + 2) - Y (i + 1)) := rfl
      unfold turn
      dsimp only
      simp only [Nat.add_assoc, Nat.reduceAdd]
      omega)
  have e3 : sm 0 n (fun i => 4 * wl n X Y 0 - 2) = (4 * wl n X Y 0 - 2) * n := by
    have : ∀ (k : Nat) (c : Int), sm 0 k (fun _ => c) = c * k := by
      intro k c
      induction k with
      | zero => simp [sm]
      | succ k ih => rw [sm, ih, Int.natCast_add, Int.mul_add]; simp
    exact this _ _
  have e4 : X (0 + n) = X 0 ∧ Y (0 + n) = Y 0 ∧ X (0 + n + 1) = X 1 ∧ Y (0 + n + 1) = Y 1 := by
    refine ⟨h.px 0, h.py 0, ?_, ?_⟩
    · rw [show 0 + n + 1 = 1 + n by omega]; exact h.px 1
    · rw [show 0 + n + 1 = 1 + n by omega]; exact h.py 1
  rw [e1, e2, sm_add, sm_add, e3, sm_mul, sm_neg, sm_tele 0 n (fun i => Phi (X (i + 1) - X i) (Y (i + 1) - Y i)), rot_wl h]
  rw [e4.1, e4.2.1, e4.2.2.1, e4.2.2.2, Nat.zero_add]
  grind
theorem phi_same {k m a b a' b' : Int} (hk : 0 < k) (hm : 0 < m) (h1 : k * a' = m * a) (h2 : k * b' = m * b) : Phi a' b' = Phi a b := by
  have s1 := sign_scale (k := k) (x := a') hk; have s2 := sign_scale (k := k) (x := b') hk
  have s3 := sign_scale (k := m) (x := a) hm; have s4 := sign_scale (k := m) (x := b) hm
  rw [h1] at s1; rw [h2] at s2
  unfold Phi
  have p1 : (0 < b') ↔ 0 < b := by rw [← s2.1, s4.1]
  have p2 : (b' < 0) ↔ b < 0 := by rw [← s2.2, s4.2]
  have p3 : (a' < 0) ↔ a < 0 := by rw [← s1.2, s3.2]
  simp only [p1, p2, p3]
/-- Inside a side. -/
theorem c4_in {n : Nat} {X Y : Nat → Int} (h : Simple n X Y) {i : Nat} {al be cx cy : Int} (ha : 0 < al) (hb : 0 < be)
    (hx : (al + be) * cx = al * X (i + 1) + be * X (i + 2)) (hy : (al + be) * cy = al * Y (i + 1) + be * Y (i + 2)) : c4 n X Y cx cy = 2 * (2 * wl n X Y 0 - 1) := by
  have n3 := h.n3
  have r := rest_eq h ha hb hx hy
  rw [wl_all h] at r
  obtain ⟨m, rfl⟩ : ∃ m, n = m + 3 := ⟨n - 3, by omega⟩
  rw [c4_from h.px h.py _ _ (i + 1), sm_first]
  have z1 : gS (X (i + 1)) (Y (i + 1)) (X (i + 1 + 1)) (Y (i + 1 + 1)) cx cy = 0 := gS_zero (by
    unfold cro
    have : (al + be) * ((X (i + 1) - cx) * (Y (i + 2) - cy) - (Y (i + 1) - cy) * (X (i + 2) - cx)) = 0 := by grind
    rcases Int.mul_eq_zero.1 this with q | q
    · omega
    · exact q)
  rw [z1]
  have e := c4_part (X := X) (Y := Y) (x := cx) (y := cy) (i + 1 + 1) (m + 2) (fun j a b => by
    by_cases c : j = i + 2
    · subst c
      obtain ⟨g, k, h1, h2⟩ := h.fwd (i + 1)
      simp only [Nat.add_assoc, Nat.reduceAdd] at h1 h2 ⊢
      have s1 : g * (X (i + 3) - X (i + 1)) + k * (Y (i + 3) - Y (i + 1)) = (g * (X (i + 2) - X (i + 1)) + k * (Y (i + 2) - Y (i + 1))) + (g * (X (i + 3) - X (i + 2)) + k * (Y (i + 3) - Y (i + 2))) := by grind
      exact ⟨g, k, mid_pos ha hb hx hy h1 (by simp), mid_pos ha hb hx hy (by omega) (by omega)⟩
    · by_cases d : j = i + (m + 3)
      · subst d
        obtain ⟨g, k, h1, h2⟩ := (h.fwd i).neg
        rw [show i + (m + 3) + 1 = i + 1 + (m + 3) by omega, h.px, h.py, h.px, h.py]
        have hx' : (be + al) * cx = be * X (i + 2) + al * X (i + 1) := by rw [Int.add_comm be al, hx]; omega
        have hy' : (be + al) * cy = be * Y (i + 2) + al * Y (i + 1) := by rw [Int.add_comm be al, hy]; omega
        have s1 : g * (X i - X (i + 2)) + k * (Y i - Y (i + 2)) = (g * -(X (i + 1) - X i) + k * -(Y (i + 1) - Y i)) + (g * -(X (i + 2) - X (i + 1)) + k * -(Y (i + 2) - Y (i + 1))) := by grind
        have s2 : g * (X i - X (i + 1)) + k * (Y i - Y (i + 1)) = g * -(X (i + 1) - X i) + k * -(Y (i + 1) - Y i) := by grind
        have s3 : g * (X (i + 1) - X (i + 2)) + k * (Y (i + 1) - Y (i + 2)) = g * -(X (i + 2) - X (i + 1)) + k * -(Y (i + 2) - Y (i + 1)) := by grind
        exact ⟨g, k, mid_pos hb ha hx' hy' (by omega) (by omega), mid_pos hb ha hx' hy' (by omega) (by simp)⟩
      · obtain ⟨g, k, h1, h2, h3, h4⟩ := h.sep (i + 1) j (by omega) (by omega)
        exact ⟨g, k, mid_pos ha hb hx hy h1 (Int.le_of_lt h3), mid_pos ha hb hx hy h2 (Int.le_of_lt h4)⟩)
  have q0 : X (i + 1 + 1 + (m + 2)) = X (i + 1) := by rw [show i + 1 + 1 + (m + 2) = i + 1 + (m + 3) by omega]; exact h.px _
  have q1 : Y (i + 1 + 1 + (m + 2)) = Y (i + 1) := by rw [show i + 1 + 1 + (m + 2) = i + 1 + (m + 3) by omega]; exact h.py _
  rw [q0, q1] at e
  have rd : rest (m + 3) X Y i cx cy = sm (i + 1 + 1) (m + 2) (side X Y cx cy) := rfl
  rw [← rd] at e
  have p1 : Phi (X (i + 1) - cx) (Y (i + 1) - cy) = Phi (-(X (i + 2) - X (i + 1))) (-(Y (i + 2) - Y (i + 1))) := phi_same (k := al + be) (m := be) (by omega) hb (by grind) (by grind)
  have p2 : Phi (X (i + 1 + 1) - cx) (Y (i + 1 + 1) - cy) = Phi (X (i + 2) - X (i + 1)) (Y (i + 2) - Y (i + 1)) := phi_same (k := al + be) (m := al) (by omega) ha (by grind) (by grind)
  rw [p1, p2] at e
  have p := phi_neg (h.edge (i + 1))
  simp only [Nat.add_assoc, Nat.reduceAdd] at p e ⊢
  rw [e]
  omega
end Go.Proofs.Ytgdhgncdpmalcaa.Geo
namespace Go.Proofs.Ytgdhgncdpmalcaa.Geo
open Go.Proofs.Ytgdhgncdpmalcaa.Pure
set_option linter.unusedVariables false
open Classical in
/-- 1 for a point on a side. -/
noncomputable def onI (n : Nat) (X Y : Nat → Int) (x y : Int) : Int := if ∃ j, j < n ∧ onP (X j) (Y j) (X (j + 1)) (Y (j + 1)) x y then 1 else 0
open Classical in
/-- 1 for a point inside. -/
noncomputable def inI (n : Nat) (X Y : Nat → Int) (x y : Int) : Int := if (∃ j, j < n ∧ onP (X j) (Y j) (X (j + 1)) (Y (j + 1)) x y) ∨ wn n X Y x y = 0 then 0 else 1
/-- A point on a segment divides it. -/
theorem on_div {ax ay bx b_y x y : Int} (h : ¬ (bx = ax ∧ b_y = ay)) (ho : onP ax ay bx b_y x y) :
    ∃ al be : Int, 0 ≤ al ∧ 0 ≤ be ∧ 0 < al + be ∧ (al + be) * x = al * ax + be * bx ∧ (al + be) * y = al * ay + be * b_y := by
  have hD := norm_pos (p := bx - ax) (q := b_y - ay) (by omega)
  obtain ⟨c, h1, h2, h3, h4⟩ := ho
  unfold crs at c
  have pr : ∀ {p r : Int}, min 0 p ≤ r → r ≤ max 0 p → 0 ≤ p * r ∧ p * r ≤ p * p := by
    intro p r a b
    rcases Int.le_total 0 p with q | q
    · have m1 := Int.mul_nonneg q (show 0 ≤ r by omega)
      have m2 := Int.mul_le_mul_of_nonneg_left (show r ≤ p by omega) q
      exact ⟨m1, m2⟩
    · have m1 := Int.mul_nonneg (show 0 ≤ -p by omega) (show 0 ≤ -r by omega)
      have m2 := Int.mul_le_mul_of_nonneg_left (show -r ≤ -p by omega) (show 0 ≤ -p by omega)
      rw [Int.neg_mul_neg] at m1; rw [Int.neg_mul_neg, Int.neg_mul_neg] at m2
      exact ⟨m1, m2⟩
  have p1 := pr (p := bx - ax) (r := x - ax) (by omega) (by omega)
  have p2 := pr (p := b_y - ay) (r := y - ay) (by omega) (by omega)
  refine ⟨((bx - ax) * (bx - ax) + (b_y - ay) * (b_y - ay)) - ((bx - ax) * (x - ax) + (b_y - ay) * (y - ay)), (bx - ax) * (x - ax) + (b_y - ay) * (y - ay), by omega, by omega, by omega, ?_, ?_⟩
  · have : (b_y - ay) * ((bx - ax) * (y - ay) - (b_y - ay) * (x - ax)) = 0 := by rw [c]; simp
    grind
  · have : (bx - ax) * ((bx - ax) * (y - ay) - (b_y - ay) * (x - ax)) = 0 := by rw [c]; simp
    grind
theorem sep_on {ax ay bx b_y cx cy dx dy x y : Int} (h : Sep ax ay bx b_y cx cy dx dy) (n1 : ¬ (bx = ax ∧ b_y = ay)) (n2 : ¬ (dx = cx ∧ dy = cy)) (o1 : onP ax ay bx b_y x y) (o2 : onP cx cy dx dy x y) : False := by
  obtain ⟨g, k, h1, h2, h3, h4⟩ := h
  obtain ⟨al, be, a0, a1, a2, a3, a4⟩ := on_div n1 o1
  obtain ⟨ga, de, b0, b1, b2, b3, b4⟩ := on_div n2 o2
  have s : al * ga * (g * (cx - ax) + k * (cy - ay)) + al * de * (g * (dx - ax) + k * (dy - ay)) + be * ga * (g * (cx - bx) + k * (cy - b_y)) + be * de * (g * (dx - bx) + k * (dy - b_y)) =
    g * ((al + be) * (ga * cx + de * dx) - (ga + de) * (al * ax + be * bx)) + k * ((al + be) * (ga * cy + de * dy) - (ga + de) * (al * ay + be * b_y)) := by grind
  rw [← a3, ← a4, ← b3, ← b4, show (al + be) * ((ga + de) * x) - (ga + de) * ((al + be) * x) = 0 by grind, show (al + be) * ((ga + de) * y) - (ga + de) * ((al + be) * y) = 0 by grind] at s
  have m1 := Int.mul_nonneg (Int.mul_nonneg a0 b0) (Int.le_of_lt h1)
  have m2 := Int.mul_nonneg (Int.mul_nonneg a0 b1) (Int.le_of_lt h2)
  have m3 := Int.mul_nonneg (Int.mul_nonneg a1 b0) (Int.le_of_lt h3)
  have m4 := Int.mul_nonneg (Int.mul_nonneg a1 b1) (Int.le_of_lt h4)
  have st : ∀ {u v w : Int}, 0 ≤ u → 0 ≤ v → 0 < w → u * v * w = 0 → u = 0 ∨ v = 0 := by
    intro u v w hu hv hw e
    rcases Int.mul_eq_zero.1 e with q | q
    · exact Int.mul_eq_zero.1 q
    · omega
  simp at s
  have z1 := st a0 b0 h1 (by omega)
  have z2 := st a0 b1 h2 (by omega)
  have z3 := st a1 b0 h3 (by omega)
  have z4 := st a1 b1 h4 (by omega)
  omega
/-- A point on two sides that follow each other is their corner. -/
theorem fwd_on {ax ay bx b_y cx cy x y : Int} (h : Fwd (bx - ax) (b_y - ay) (cx - bx) (cy - b_y)) (n1 : ¬ (bx = ax ∧ b_y = ay)) (n2 : ¬ (cx = bx ∧ cy = b_y)) (o1 : onP ax ay bx b_y x y) (o2 : onP bx b_y cx cy x y) : x = bx ∧ y = b_y := by
  obtain ⟨g, k, h1, h2⟩ := h
  obtain ⟨al, be, a0, a1, a2, a3, a4⟩ := on_div n1 o1
  obtain ⟨ga, de, b0, b1, b2, b3, b4⟩ := on_div n2 o2
  have e1 : (al + be) * (x - bx) = -(al * (bx - ax)) := by grind
  have e2 : (al + be) * (y - b_y) = -(al * (b_y - ay)) := by grind
  have e3 : (ga + de) * (x - bx) = de * (cx - bx) := by grind
  have e4 : (ga + de) * (y - b_y) = de * (cy - b_y) := by grind
  have s : (ga + de) * (al * (g * (bx - ax) + k * (b_y - ay))) + (al + be) * (de * (g * (cx - bx) + k * (cy - b_y))) = 0 := by
    have : (ga + de) * (al * (g * (bx - ax) + k * (b_y - ay))) + (al + be) * (de * (g * (cx - bx) + k * (cy - b_y))) =
      g * ((ga + de) * (al * (bx - ax)) + (al + be) * (de * (cx - bx))) + k * ((ga + de) * (al * (b_y - ay)) + (al + be) * (de * (cy - b_y))) := by grind
    rw [this, ← e3, ← e4, show al * (bx - ax) = -((al + be) * (x - bx)) by omega, show al * (b_y - ay) = -((al + be) * (y - b_y)) by omega]
    grind
  have m1 := Int.mul_nonneg (Int.le_of_lt b2) (Int.mul_nonneg a0 (Int.le_of_lt h1))
  have m2 := Int.mul_nonneg (Int.le_of_lt a2) (Int.mul_nonneg b1 (Int.le_of_lt h2))
  have z : (al + be) * (de * (g * (cx - bx) + k * (cy - b_y))) = 0 := by omega
  have dz : de = 0 := by
    rcases Int.mul_eq_zero.1 z with q | q
    · omega
    · rcases Int.mul_eq_zero.1 q with r | r <;> omega
  rw [dz, Int.zero_mul] at e3 e4
  constructor
  · rcases Int.mul_eq_zero.1 e3 with q | q <;> omega
  · rcases Int.mul_eq_zero.1 e4 with q | q <;> omega
/-! sums over the lattice -/
theorem lat_add (M : Nat) (F G : Int → Int → Int) : lat M (fun x y => F x y + G x y) = lat M F + lat M G := by
  unfold lat; rw [← sm_add]; exact sm_congr (fun i _ _ => sm_add _ _ _ _)
theorem lat_mul (M : Nat) (c : Int) (F : Int → Int → Int) : lat M (fun x y => c * F x y) = c * lat M F := by
  unfold lat; rw [← sm_mul]; exact sm_congr (fun i _ _ => sm_mul _ _ _ _)
theorem lat_congr {M : Nat} {F G : Int → Int → Int} (h : ∀ x y, -(M : Int) ≤ x → x ≤ M → -(M : Int) ≤ y → y ≤ M → F x y = G x y) : lat M F = lat M G :=
  sm_congr (fun i _ _ => sm_congr (fun j _ _ => h _ _ (by omega) (by omega) (by omega) (by omega)))
theorem lat_sm (M n : Nat) (F : Nat → Int → Int → Int) : lat M (fun x y => sm 0 n (fun j => F j x y)) = sm 0 n (fun j => lat M (F j)) := by
  unfold lat
  rw [← sm_swp (2 * M + 1) n 0 0 (fun i j => sm 0 (2 * M + 1) (fun t => F j (-M + t) (-M + i)))]
  exact sm_congr (fun i _ _ => sm_swp _ _ _ _ _)
theorem sm_delta (N p : Nat) (c : Int) : sm 0 N (fun j => if j = p then c else 0) = if p < N then c else 0 := by
  induction N with
  | zero => rw [if_neg (by omega)]; rfl
  | succ N ih =>
    rw [sm, ih, Nat.zero_add]
    by_cases e : N = p
    · rw [if_pos e, if_neg (by omega), if_pos (by omega)]; omega
    · rw [if_neg e]
      by_cases q : p < N
      · rw [if_pos q, if_pos (by omega)]; omega
      · rw [if_neg q, if_neg (by omega)]; rfl
def del (a b c x y : Int) : Int := if x = a ∧ y = b then c else 0
theorem lat_del {M : Nat} {a b c : Int} (ha : -(M : Int) ≤ a ∧ a ≤ M) (hb : -(M : Int) ≤ b ∧ b ≤ M) : lat M (del a b c) = c := by
  obtain ⟨p, hp⟩ : ∃ p : Nat, (p : Int) = a + M := ⟨(a + M).toNat, by omega⟩
  obtain ⟨q, hq⟩ : ∃ q : Nat, (q : Int) = b + M := ⟨(b + M).toNat, by omega⟩
  have r : ∀ i : Nat, sm 0 (2 * M + 1) (fun j => del a b c (-M + j) (-M + i)) = if i = q then c else 0 := fun i => by
    by_cases e : i = q
    · rw [if_pos e]
      have : sm 0 (2 * M + 1) (fun j => del a b c (-M + j) (-M + i)) = sm 0 (2 * M + 1) (fun j => if j = p then c else 0) := sm_congr (fun j _ _ => by
        unfold del
        by_cases e2 : j = p
        · rw [if_pos e2, if_pos (by omega)]
        · rw [if_neg e2, if_neg (by omega)])
      rw [this, sm_delta, if_pos (by omega)]
    · rw [if_neg e]
      exact sm_zero (fun j _ _ => by unfold del; rw [if_neg (by omega)])
  unfold lat
  rw [sm_congr (fun i _ _ => r i), sm_delta, if_pos (by omega)]
/-! Pick's law -/
theorem offs_not {n : Nat} {X Y : Nat → Int} (h : Simple n X Y) {x y : Int} (ho : ¬ ∃ j, j < n ∧ onP (X j) (Y j) (X (j + 1)) (Y (j + 1)) x y) : Offs n X Y x y :=
  offs_of (fun j => by have := h.edge j; omega) (fun j hj c => ho ⟨j, hj, c⟩)
theorem onP_beg {a b c d : Int} : onP a b c d a b := by unfold onP crs; refine ⟨by grind, ?_⟩; omega
theorem c4_point {n : Nat} {X Y : Nat → Int} (h : Simple n X Y) (hd : ∀ i j, i < n → j < n → X i = X j → Y i = Y j → i = j) (x y : Int) :
    c4 n X Y x y = (2 * wl n X Y 0 - 1) * (4 * inI n X Y x y + 2 * onI n X Y x y) + sm 0 n (fun j => del (X j) (Y j) (c4 n X Y (X j) (Y j) - 2 * (2 * wl n X Y 0 - 1)) x y) := by
  have n3 := h.n3
  by_cases ho : ∃ j, j < n ∧ onP (X j) (Y j) (X (j + 1)) (Y (j + 1)) x y
  · have i0 : inI n X Y x y = 0 := by unfold inI; rw [if_pos (.inl ho)]
    have o1 : onI n X Y x y = 1 := by unfold onI; rw [if_pos ho]
    rw [i0, o1]
    by_cases hv : ∃ j, j < n ∧ x = X j ∧ y = Y j
    · obtain ⟨j, hj, rfl, rfl⟩ := hv
      have e : sm 0 n (fun k => del (X k) (Y k) (c4 n X Y (X k) (Y k) - 2 * (2 * wl n X Y 0 - 1)) (X j) (Y j)) = sm 0 n (fun k => if k = j then c4 n X Y (X j) (Y j) - 2 * (2 * wl n X Y 0 - 1) else 0) :=
        sm_congr (fun k _ hk => by
          unfold del
          by_cases q : k = j
          · subst q; rw [if_pos ⟨rfl, rfl⟩, if_pos rfl]
          · rw [if_neg (fun c => q (hd j k hj (by omega) c.1 c.2).symm), if_neg q])
      rw [e, sm_delta, if_pos hj]
      omega
    · have e : sm 0 n (fun k => del (X k) (Y k) (c4 n X Y (X k) (Y k) - 2 * (2 * wl n X Y 0 - 1)) x y) = 0 := sm_zero (fun k _ hk => by
        unfold del; rw [if_neg (fun c => hv ⟨k, by omega, c⟩)])
      rw [e]
      obtain ⟨j, hj, o⟩ := ho
      have ed := h.edge j
      obtain ⟨al, be, a0, a1, a2, a3, a4⟩ := on_div (by omega) o
      have i1 : j + (n - 1) + 1 = j + n := by omega
      have i2 : j + (n - 1) + 2 = j + 1 + n := by omega
      have can : ∀ {k u v : Int}, 0 < k → k * u = k * v → u = v := fun {k u v} hk e => Int.eq_of_mul_eq_mul_left (by omega) e
      have pa : 0 < al := by
        apply Classical.byContradiction; intro c
        obtain rfl : al = 0 := by omega
        simp only [Int.zero_add, Int.zero_mul] at a2 a3 a4
        have e1 := can a2 a3; have e2 := can a2 a4
        by_cases q : j + 1 < n
        · exact hv ⟨j + 1, q, e1, e2⟩
        · have p0 := h.px 0; have p1 := h.py 0
          rw [Nat.zero_add] at p0 p1
          rw [show j + 1 = n by omega, p0] at e1
          rw [show j + 1 = n by omega, p1] at e2
          exact hv ⟨0, by omega, e1, e2⟩
      have pb : 0 < be := by
        apply Classical.byContradiction; intro c
        obtain rfl : be = 0 := by omega
        simp only [Int.add_zero, Int.zero_mul] at a2 a3 a4
        exact hv ⟨j, hj, can a2 a3, can a2 a4⟩
      have := c4_in h (i := j + (n - 1)) (al := al) (be := be) (cx := x) (cy := y) pa pb (by rw [i1, i2, h.px, h.px]; exact a3) (by rw [i1, i2, h.py, h.py]; exact a4)
      rw [this]; omega
  · have off := offs_not h ho
    have e : sm 0 n (fun k => del (X k) (Y k) (c4 n X Y (X k) (Y k) - 2 * (2 * wl n X Y 0 - 1)) x y) = 0 := sm_zero (fun k _ hk => by
      unfold del; rw [if_neg (fun c => ho ⟨k, by omega, by rw [c.1, c.2]; exact onP_beg⟩)])
    have o1 : onI n X Y x y = 0 := by unfold onI; rw [if_neg ho]
    rw [e, o1, c4_off h.px h.py off]
    unfold inI
    have w1 := wn_off h off
    have w2 := wl_01 h
    by_cases z : wn n X Y x y = 0
    · rw [if_pos (.inr z), z]; simp
    · rw [if_neg (fun c => c.elim ho z)]
      rcases w2 with w2 | w2 <;> rw [w2] at w1 ⊢ <;> omega
theorem pick {n : Nat} {X Y : Nat → Int} (h : Simple n X Y) (hd : ∀ i j, i < n → j < n → X i = X j → Y i = Y j → i = j) {B : Int} {M : Nat} (hB : 0 ≤ B) (hX : ∀ i, -B ≤ X i ∧ X i ≤ B) (hY : ∀ i, -B ≤ Y i ∧ Y i ≤ B) (hM : 4 * B ≤ M) :
    areaI n X Y = (2 * wl n X Y 0 - 1) * (2 * lat M (inI n X Y) + lat M (onI n X Y) - 2) := by
  have p0 := h.px 0; have p1 := h.py 0
  rw [Nat.zero_add] at p0 p1
  have e := lat_area (n := n) p0 p1 hX hY hM
  have e2 : lat M (c4 n X Y) = lat M (fun x y => (2 * wl n X Y 0 - 1) * (4 * inI n X Y x y + 2 * onI n X Y x y) + sm 0 n (fun j => del (X j) (Y j) (c4 n X Y (X j) (Y j) - 2 * (2 * wl n X Y 0 - 1)) x y)) :=
    lat_congr (fun x y _ _ _ _ => c4_point h hd x y)
  rw [e2, lat_add, lat_mul, lat_add, lat_mul, lat_mul, lat_sm] at e
  have e3 : sm 0 n (fun j => lat M (del (X j) (Y j) (c4 n X Y (X j) (Y j) - 2 * (2 * wl n X Y 0 - 1)))) = sm 0 n (fun j => c4 n X Y (X j) (Y j) - 2 * (2 * wl n X Y 0 - 1)) :=
    sm_congr (fun j _ _ => lat_del (by have := hX j; omega) (by have := hY j; omega))
  have e4 : sm 0 n (fun _ => 2 * (2 * wl n X Y 0 - 1)) = 2 * (2 * wl n X Y 0 - 1) * n := by
    have : ∀ (k : Nat) (c : Int), sm 0 k (fun _ => c) = c * k := by
      intro k c
      induction k with
      | zero => simp [sm]
      | succ k ih => rw [sm, ih, Int.natCast_add, Int.mul_add]; simp
    exact this _ _
  rw [e3, sm_sub, c4_corners h, e4] at e
  generalize 2 * wl n X Y 0 - 1 = w at e ⊢
  generalize lat M (inI n X Y) = I at e ⊢
  generalize lat M (onI n X Y) = O at e ⊢
  grind
end Go.Proofs.Ytgdhgncdpmalcaa.Geo
namespace Go.Proofs.Ytgdhgncdpmalcaa.Geo
open Go.Proofs.Ytgdhgncdpmalcaa.Pure
set_option linter.unusedVariables false
theorem between_t {u t g : Int} (hu : u ≠ 0) (h : min 0 (g * u) ≤ u * t ∧ u * t ≤ max 0 (g * u)) (hg : 0 < g) : 0 ≤ t ∧ t ≤ g := by
  rcases Int.lt_or_gt_of_ne hu with q | q
  · have m := Int.mul_pos hg (show 0 < -u by omega)
    rw [Int.mul_neg] at m
    constructor
    · apply Classical.byContradiction; intro c
      have := Int.mul_pos (show 0 < -u by omega) (show 0 < -t by omega); rw [Int.neg_mul_neg] at this; omega
    · apply Classical.byContradiction; intro c
      have := Int.mul_pos (show 0 < -u by omega) (show 0 < t - g by omega)
      have e : -u * (t - g) = g * u - u * t := by grind
      omega
  · have m := Int.mul_pos hg q
    constructor
    · apply Classical.byContradiction; intro c
      have := Int.mul_pos q (show 0 < -t by omega); rw [Int.mul_neg] at this; omega
    · apply Classical.byContradiction; intro c
      have := Int.mul_pos q (show 0 < t - g by omega)
      have e : u * (t - g) = u * t - g * u := by grind
      omega
theorem par_t {u v r s : Int} (hg : Int.gcd u v = 1) (h : u * s = v * r) : ∃ t, r = u * t ∧ s = v * t := by
  have hc : Nat.Coprime u.natAbs v.natAbs := hg
  by_cases hu : u = 0
  · subst hu
    rw [Int.zero_mul] at h
    rw [Int.gcd_zero_left] at hg
    have hv : v * v = 1 := by
      rcases show v = 1 ∨ v = -1 by omega with q | q <;> subst q <;> rfl
    have hr : r = 0 := by
      rcases Int.mul_eq_zero.1 h.symm with q | q
      · subst q; omega
      · exact q
    exact ⟨s * v, by rw [hr]; simp, by rw [Int.mul_comm s v, ← Int.mul_assoc, hv, Int.one_mul]⟩
  · have d : u.natAbs ∣ v.natAbs * r.natAbs := by rw [← Int.natAbs_mul, ← h, Int.natAbs_mul]; exact ⟨_, rfl⟩
    have d2 := hc.dvd_of_dvd_mul_left d
    obtain ⟨t, rfl⟩ := Int.natAbs_dvd_natAbs.1 d2
    refine ⟨t, rfl, ?_⟩
    have : u * s = u * (v * t) := by rw [h]; grind
    exact Int.eq_of_mul_eq_mul_left hu this
open Classical in
/-- 1 for a point on a side, but for its end. -/
noncomputable def cntI (ax ay bx b_y x y : Int) : Int := if onP ax ay bx b_y x y ∧ ¬ (x = bx ∧ y = b_y) then 1 else 0
theorem cnt_del {ax ay u v : Int} {g : Nat} (hg : 0 < g) (h1 : Int.gcd u v = 1) (x y : Int) :
    cntI ax ay (ax + g * u) (ay + g * v) x y = sm 0 g (fun t => del (ax + u * t) (ay + v * t) 1 x y) := by
  have nz : u ≠ 0 ∨ v ≠ 0 := by
    by_cases q : u = 0
    · right; intro e; subst q; subst e; simp at h1
    · exact .inl q
  unfold cntI
  by_cases c : onP ax ay (ax + g * u) (ay + g * v) x y ∧ ¬ (x = ax + g * u ∧ y = ay + g * v)
  · rw [if_pos c]
    obtain ⟨⟨c0, c1, c2, c3, c4⟩, ce⟩ := c
    unfold crs at c0
    have e : u * (y - ay) = v * (x - ax) := by
      have : (g : Int) * (u * (y - ay) - v * (x - ax)) = 0 := by
        have e1 : (g : Int) * (u * (y - ay) - v * (x - ax)) = (ax + g * u - ax) * (y - ay) - (ay + g * v - ay) * (x - ax) := by grind
        rw [e1]; exact c0
      rcases Int.mul_eq_zero.1 this with q | q <;> omega
    obtain ⟨t, t1, t2⟩ := par_t h1 e
    have bt : 0 ≤ t ∧ t ≤ g := by
      rcases nz with q | q
      · exact between_t (g := (g : Int)) q (by rw [← t1]; omega) (by omega)
      · exact between_t (g := (g : Int)) q (by rw [← t2]; omega) (by omega)
    have tg : t ≠ g := fun q => ce ⟨by rw [q, Int.mul_comm] at t1; omega, by rw [q, Int.mul_comm] at t2; omega⟩
    obtain ⟨m, rfl⟩ : ∃ m : Nat, t = m := ⟨t.toNat, by omega⟩
    have : sm 0 g (fun k => del (ax + u * k) (ay + v * k) 1 x y) = sm 0 g (fun k => if k = m then 1 else 0) := sm_congr (fun k _ _ => by
      unfold del
      by_cases q : k = m
      · subst q; rw [if_pos ⟨by omega, by omega⟩, if_pos rfl]
      · rw [if_neg q, if_neg]
        rintro ⟨e1, e2⟩
        rcases nz with z | z
        · have := Int.eq_of_mul_eq_mul_left z (show u * (k : Int) = u * (m : Int) by omega); omega
        · have := Int.eq_of_mul_eq_mul_left z (show v * (k : Int) = v * (m : Int) by omega); omega)
    rw [this, sm_delta, if_pos (by omega)]
  · rw [if_neg c]
    symm
    refine sm_zero (fun k _ hk => ?_)
    unfold del
    rw [if_neg]
    rintro ⟨rfl, rfl⟩
    apply c
    have bd : ∀ w : Int, min 0 (g * w) ≤ w * k ∧ w * k ≤ max 0 (g * w) := by
      intro w
      rcases Int.le_total 0 w with q | q
      · have m1 := Int.mul_nonneg q (show 0 ≤ (k : Int) by omega)
        have m2 := Int.mul_le_mul_of_nonneg_left (show (k : Int) ≤ g by omega) q
        rw [Int.mul_comm w g] at m2; omega
      · have m1 := Int.mul_nonneg (show 0 ≤ -w by omega) (show 0 ≤ (k : Int) by omega)
        have m2 := Int.mul_le_mul_of_nonneg_left (show (k : Int) ≤ g by omega) (show 0 ≤ -w by omega)
        rw [Int.neg_mul] at m1; rw [Int.neg_mul, Int.neg_mul, Int.mul_comm w g] at m2; omega
    have b1 := bd u; have b2 := bd v
    refine ⟨?_, ?_⟩
    · unfold onP crs
      refine ⟨by grind, ?_⟩
      omega
    · rintro ⟨e1, e2⟩
      rcases nz with z | z
      · have := Int.eq_of_mul_eq_mul_left z (show u * (k : Int) = u * (g : Int) by rw [Int.mul_comm u g]; omega); omega
      · have := Int.eq_of_mul_eq_mul_left z (show v * (k : Int) = v * (g : Int) by rw [Int.mul_comm v g]; omega); omega
theorem lat_cnt {ax ay bx b_y : Int} {M : Nat} (ne : ¬ (bx = ax ∧ b_y = ay)) (ha : -(M : Int) ≤ ax ∧ ax ≤ M) (hb : -(M : Int) ≤ bx ∧ bx ≤ M) (ha' : -(M : Int) ≤ ay ∧ ay ≤ M) (hb' : -(M : Int) ≤ b_y ∧ b_y ≤ M) :
    lat M (cntI ax ay bx b_y) = (Int.gcd (bx - ax) (b_y - ay) : Int) := by
  have hg : 0 < Int.gcd (bx - ax) (b_y - ay) := Int.gcd_pos_iff.2 (by omega)
  obtain ⟨u, hu⟩ := Int.gcd_dvd_left (bx - ax) (b_y - ay)
  obtain ⟨v, hv⟩ := Int.gcd_dvd_right (bx - ax) (b_y - ay)
  generalize hG : Int.gcd (bx - ax) (b_y - ay) = g at *
  have h1 : Int.gcd u v = 1 := by
    rw [hu, hv, Int.gcd_mul_left, Int.natAbs_natCast] at hG
    exact Nat.eq_of_mul_eq_mul_left hg (by omega)
  obtain rfl : bx = ax + g * u := by omega
  obtain rfl : b_y = ay + g * v := by omega
  have e : lat M (cntI ax ay (ax + g * u) (ay + g * v)) = lat M (fun x y => sm 0 g (fun t => del (ax + u * t) (ay + v * t) 1 x y)) := lat_congr (fun x y _ _ _ _ => cnt_del hg h1 x y)
  rw [e, lat_sm]
  have bd : ∀ (w : Int) (k : Nat), k < g → min 0 (g * w) ≤ w * k ∧ w * k ≤ max 0 (g * w) := by
    intro w k hk
    rcases Int.le_total 0 w with q | q
    · have m1 := Int.mul_nonneg q (show 0 ≤ (k : Int) by omega)
      have m2 := Int.mul_le_mul_of_nonneg_left (show (k : Int) ≤ g by omega) q
      rw [Int.mul_comm w g] at m2; omega
    · have m1 := Int.mul_nonneg (show 0 ≤ -w by omega) (show 0 ≤ (k : Int) by omega)
      have m2 := Int.mul_le_mul_of_nonneg_left (show (k : Int) ≤ g by omega) (show 0 ≤ -w by omega)
      rw [Int.neg_mul] at m1; rw [Int.neg_mul, Int.neg_mul, Int.mul_comm w g] at m2; omega
  have : sm 0 g (fun t => lat M (del (ax + u * t) (ay + v * t) 1)) = sm 0 g (fun t => 1) := sm_congr (fun t _ ht => lat_del (by have := bd u t (by omega); omega) (by have := bd v t (by omega); omega))
  rw [this]
  have : ∀ k, sm 0 k (fun _ => (1 : Int)) = k := by
    intro k
    induction k with
    | zero => rfl
    | succ k ih => rw [sm, ih]; omega
  exact this g
theorem on_cnt {n : Nat} {X Y : Nat → Int} (h : Simple n X Y) (x y : Int) : onI n X Y x y = sm 0 n (fun j => cntI (X j) (Y j) (X (j + 1)) (Y (j + 1)) x y) := by
  have n3 := h.n3
  have p0 := h.px 0; have p1 := h.py 0; have q0 := h.px 1; have q1 := h.py 1
  rw [Nat.zero_add] at p0 p1
  have ne : ∀ j, ¬ (X (j + 1) = X j ∧ Y (j + 1) = Y j) := fun j => by have := h.edge j; omega
  unfold onI
  by_cases ho : ∃ j, j < n ∧ onP (X j) (Y j) (X (j + 1)) (Y (j + 1)) x y
  · rw [if_pos ho]
    have ho2 : ∃ j, j < n ∧ onP (X j) (Y j) (X (j + 1)) (Y (j + 1)) x y ∧ ¬ (x = X (j + 1) ∧ y = Y (j + 1)) := by
      obtain ⟨j, hj, o⟩ := ho
      by_cases c : x = X (j + 1) ∧ y = Y (j + 1)
      · by_cases d : j + 1 < n
        · refine ⟨j + 1, d, by rw [c.1, c.2]; exact onP_beg, fun k => ne (j + 1) ⟨by omega, by omega⟩⟩
        · rw [show j + 1 = n by omega, p0, p1] at c
          refine ⟨0, by omega, by rw [c.1, c.2]; exact onP_beg, fun k => ne 0 ⟨by omega, by omega⟩⟩
      · exact ⟨j, hj, o, c⟩
    obtain ⟨j, hj, o, e⟩ := ho2
    -- no other side has it, but for its end
    have uniq : ∀ a b, a < b → b < n → onP (X a) (Y a) (X (a + 1)) (Y (a + 1)) x y → ¬ (x = X (a + 1) ∧ y = Y (a + 1)) → onP (X b) (Y b) (X (b + 1)) (Y (b + 1)) x y → ¬ (x = X (b + 1) ∧ y = Y (b + 1)) → False := by
      intro a b hab hb oa ea ob eb
      by_cases c : b = a + 1
      · subst c
        exact ea (fwd_on (h.fwd a) (ne a) (ne (a + 1)) oa ob)
      · by_cases d : b + 2 ≤ a + n
        · exact sep_on (h.sep a b (by omega) d) (ne a) (ne b) oa ob
        · obtain rfl : a = 0 := by omega
          have bn : b + 1 = n := by omega
          have f := h.fwd b
          have e0 : X (b + 2) = X (0 + 1) := by rw [show b + 2 = 1 + n by omega, q0]
          have e1 : Y (b + 2) = Y (0 + 1) := by rw [show b + 2 = 1 + n by omega, q1]
          have e2 : X (b + 1) = X 0 := by rw [bn, p0]
          have e3 : Y (b + 1) = Y 0 := by rw [bn, p1]
          rw [e0, e1, e2, e3] at f
          rw [e2, e3] at ob eb
          exact eb (fwd_on f (by have := ne b; rw [e2, e3] at this; exact this) (ne 0) ob oa)
    have : sm 0 n (fun k => cntI (X k) (Y k) (X (k + 1)) (Y (k + 1)) x y) = sm 0 n (fun k => if k = j then 1 else 0) := sm_congr (fun k _ hk => by
      unfold cntI
      by_cases q : k = j
      · subst q; rw [if_pos ⟨o, e⟩, if_pos rfl]
      · rw [if_neg q, if_neg]
        rintro ⟨o2, e2⟩
        rcases Nat.lt_or_ge k j with z | z
        · exact uniq k j z hj o2 e2 o e
        · exact uniq j k (by omega) (by omega) o e o2 e2)
    rw [this, sm_delta, if_pos hj]
  · rw [if_neg ho]
    symm
    exact sm_zero (fun k _ hk => by unfold cntI; rw [if_neg]; exact fun c => ho ⟨k, by omega, c.1⟩)
theorem lat_on {n : Nat} {X Y : Nat → Int} (h : Simple n X Y) {M : Nat} (hX : ∀ i, -(M : Int) ≤ X i ∧ X i ≤ M) (hY : ∀ i, -(M : Int) ≤ Y i ∧ Y i ≤ M) :
    lat M (onI n X Y) = sm 0 n (fun j => (Int.gcd (X (j + 1) - X j) (Y (j + 1) - Y j) : Int)) := by
  have e : lat M (onI n X Y) = lat M (fun x y => sm 0 n (fun j => cntI (X j) (Y j) (X (j + 1)) (Y (j + 1)) x y)) := lat_congr (fun x y _ _ _ _ => on_cnt h x y)
  rw [e, lat_sm]
  exact sm_congr (fun j _ _ => lat_cnt (by have := h.edge j; omega) (hX j) (hX (j + 1)) (hY j) (hY (j + 1)))
end Go.Proofs.Ytgdhgncdpmalcaa.Geo
namespace Go.Proofs.Ytgdhgncdpmalcaa.Pure
open Go.RowKit Go.Proofs.Ytgdhgncdpmalcaa.Q Go.Proofs.Ytgdhgncdpmalcaa.Ring Go.Proofs.Ytgdhgncdpmalcaa.Geo Go.Proofs.YtgdhgncdpmalcaaW.PrintWords Go.Proofs.YtgdhgncdpmalcaaW.PrintLast
set_option linter.unusedVariables false
theorem xx_bd {l : List Pt} (h : cvB l = true) (i : Nat) : -10000 ≤ XX l i ∧ XX l i ≤ 10000 := (cv_at h i).1
theorem yy_bd {l : List Pt} (h : cvB l = true) (i : Nat) : -10000 ≤ YY l i ∧ YY l i ≤ 10000 := (cv_at h i).2
theorem okS_simple {l : List Pt} (h : okS l = true) : Simple l.length (XX l) (YY l) := Geo.SimpI.simple (okS_iff.1 h).2
theorem areaI_eq (l : List Pt) : areaI l.length (XX l) (YY l) = area2 l := rfl
/-- The lattice that holds all corners, and more. -/
theorem okS_pick {l : List Pt} (h : okS l = true) {M : Nat} (hM : 40000 ≤ M) : area2 l = (2 * wl l.length (XX l) (YY l) 0 - 1) * (2 * lat M (inI l.length (XX l) (YY l)) + lat M (onI l.length (XX l) (YY l)) - 2) := by
  have hc := (okS_iff.1 h).1
  rw [← areaI_eq]
  exact pick (okS_simple h) (okS_iff.1 h).2.dist (B := 10000) (by omega) (xx_bd hc) (yy_bd hc) (by omega)
theorem inI_01 (n : Nat) (X Y : Nat → Int) (x y : Int) : inI n X Y x y = 0 ∨ inI n X Y x y = 1 := by unfold inI; split <;> simp
theorem sm_nn {lo k : Nat} {f : Nat → Int} (h : ∀ j, 0 ≤ f j) : 0 ≤ sm lo k f := by
  induction k with
  | zero => exact Int.le_refl _
  | succ k ih => rw [sm]; have := h (lo + k); omega
theorem lat_nn {M : Nat} {F : Int → Int → Int} (h : ∀ x y, 0 ≤ F x y) : 0 ≤ lat M F := sm_nn (fun _ => sm_nn (fun _ => h _ _))
theorem on_least {l : List Pt} (h : okS l = true) {M : Nat} (hM : 40000 ≤ M) : (l.length : Int) ≤ lat M (onI l.length (XX l) (YY l)) := by
  have hc := (okS_iff.1 h).1
  have S := okS_simple h
  rw [lat_on S (fun i => by have := xx_bd hc i; omega) (fun i => by have := yy_bd hc i; omega)]
  have : ∀ n : Nat, (n : Int) ≤ sm 0 n (fun j => (Int.gcd (XX l (j + 1) - XX l j) (YY l (j + 1) - YY l j) : Int)) := by
    intro n
    induction n with
    | zero => exact Int.le_refl _
    | succ n ih =>
      have g : 0 < Int.gcd (XX l (0 + n + 1) - XX l (0 + n)) (YY l (0 + n + 1) - YY l (0 + n)) := Int.gcd_pos_iff.2 (by have := S.edge (0 + n); omega)
      rw [sm]; omega
  exact this _
theorem wl_sign {l : List Pt} (h : okS l = true) : (wl l.length (XX l) (YY l) 0 = 1 ∧ 0 < area2 l) ∨ (wl l.length (XX l) (YY l) 0 = 0 ∧ area2 l < 0) := by
  have hc := cvB_iff.1 (okS_iff.1 h).1
  have p := okS_pick h (M := 40000) (Nat.le_refl _)
  have o := on_least h (M := 40000) (Nat.le_refl _)
  have i := lat_nn (M := 40000) (inI_nn l)
  rcases wl_01 (okS_simple h) with w | w
  · rw [w] at p; left; exact ⟨w, by omega⟩
  · rw [w] at p; right; exact ⟨w, by omega⟩
where inI_nn (l : List Pt) : ∀ x y, 0 ≤ inI l.length (XX l) (YY l) x y := fun x y => by have := inI_01 l.length (XX l) (YY l) x y; omega
theorem area_ne {l : List Pt} (h : okS l = true) : area2 l ≠ 0 := by rcases wl_sign h with w | w <;> omega
/-! places -/
theorem flip_cr {a b c d : Int} (h : Fwd a b c d) : (if ((decide (0 < b) != decide (0 < d)) && (decide (b < d) == decide (0 < cro a b c d))) = true then (1 : Int) else 0) = ((cr a b c d).natAbs : Int) := by
  obtain ⟨x, y, g1, g2⟩ := h
  have k1 : d * (x * a + y * b) - b * (x * c + y * d) = x * cro a b c d := by unfold cro; grind
  have z1 : ¬ (a = 0 ∧ b = 0) := fun ⟨p, q⟩ => by subst p; subst q; simp at g1
  have z2 : ¬ (c = 0 ∧ d = 0) := fun ⟨p, q⟩ => by subst p; subst q; simp at g2
  rcases Int.lt_or_le 0 b with hb | hb
  · rcases Int.lt_or_le 0 d with hd | hd
    · have e : cr a b c d = 0 := by unfold cr; rw [if_neg (by unfold low; omega), if_neg (by unfold low; omega)]
      rw [e, decide_eq_true hb, decide_eq_true hd]; rfl
    · have ne : cro a b c d ≠ 0 := fun z => by
        rw [z] at k1
        have m1 := Int.mul_nonneg (show 0 ≤ -d by omega) (Int.le_of_lt g1)
        have m2 := Int.mul_pos hb g2
        rw [Int.neg_mul] at m1; omega
      rw [decide_eq_true hb, decide_eq_false (show ¬ 0 < d by omega), decide_eq_false (show ¬ b < d by omega)]
      unfold cr
      rw [if_neg (show ¬ low a b by unfold low; omega)]
      by_cases lc : low c d
      · rw [if_pos lc]
        by_cases q : cro a b c d < 0
        · rw [if_pos q, decide_eq_false (show ¬ 0 < cro a b c d by omega)]; rfl
        · rw [if_neg q, decide_eq_true (show 0 < cro a b c d by omega)]; rfl
      · rw [if_neg lc]
        have : 0 < cro a b c d := by
          unfold low at lc
          have hd0 : d = 0 := by omega
          subst hd0
          have := Int.mul_pos hb (show 0 < -c by omega)
          unfold cro; rw [Int.mul_neg] at this; omega
        rw [decide_eq_true this]; rfl
  · rcases Int.lt_or_le 0 d with hd | hd
    · have ne : cro a b c d ≠ 0 := fun z => by
        rw [z] at k1
        have m1 := Int.mul_pos hd g1
        have m2 := Int.mul_nonneg (show 0 ≤ -b by omega) (Int.le_of_lt g2)
        rw [Int.neg_mul] at m2; omega
      rw [decide_eq_false (show ¬ 0 < b by omega), decide_eq_true hd, decide_eq_true (show b < d by omega)]
      unfold cr
      rw [if_neg (show ¬ low c d by unfold low; omega)]
      by_cases la : low a b
      · rw [if_pos la]
        by_cases q : 0 < cro a b c d
        · rw [if_pos q, decide_eq_true q]; rfl
        · rw [if_neg q, decide_eq_false q]; rfl
      · rw [if_neg la]
        have : ¬ 0 < cro a b c d := by
          unfold low at la
          have hb0 : b = 0 := by omega
          subst hb0
          have := Int.mul_pos (show 0 < -a by omega) hd
          unfold cro; rw [Int.neg_mul] at this; omega
        rw [decide_eq_false this, if_neg (show ¬ low c d by unfold low; omega)]; rfl
    · rw [decide_eq_false (show ¬ 0 < b by omega), decide_eq_false (show ¬ 0 < d by omega)]
      have e : cr a b c d = 0 := by
        unfold cr
        by_cases la : low a b
        · rw [if_pos la]
          by_cases lc : low c d
          · rw [if_pos lc]
          · rw [if_neg lc, if_neg]
            unfold low at lc
            have hd0 : d = 0 := by omega
            subst hd0
            have := Int.mul_nonneg (show 0 ≤ -b by omega) (show 0 ≤ -c by omega)
            unfold cro; rw [Int.neg_mul_neg] at this; omega
        · rw [if_neg la]
          by_cases lc : low c d
          · rw [if_pos lc, if_neg]
            unfold low at la
            have hb0 : b = 0 := by omega
            subst hb0
            have := Int.mul_nonneg (show 0 ≤ -a by omega) (show 0 ≤ -d by omega)
            unfold cro; rw [Int.neg_mul_neg] at this; omega
          · rw [if_neg lc]
      rw [e]; rfl
theorem on_X {l : List Pt} (hv : cvB l = true) {p : Pt} (hp : PVP p) (i : Nat) : onX l p i = true ↔ onP (XX l i) (YY l i) (XX l (i + 1)) (YY l (i + 1)) p.f0 p.f1 := on_iff (pvp hv _) (pvp hv _) hp
theorem onP_dec (l : List Pt) (p : Pt) : (∃ j, j < l.length ∧ onP (XX l j) (YY l j) (XX l (j + 1)) (YY l (j + 1)) p.f0 p.f1) ∨ ¬ ∃ j, j < l.length ∧ onP (XX l j) (YY l j) (XX l (j + 1)) (YY l (j + 1)) p.f0 p.f1 := Classical.em _
theorem flX_cr {l : List Pt} (hv : cvB l = true) {p : Pt} (hp : PVP p) (o : Offs l.length (XX l) (YY l) p.f0 p.f1) {i : Nat} (hi : i < l.length) : flX l p i = ((side (XX l) (YY l) p.f0 p.f1 i).natAbs : Int) := by
  unfold side
  rw [← flip_cr (o i hi)]
  unfold flX flipB
  have e1 : decide (p.f1 < (PC l i).f1) = decide (0 < YY l i - p.f1) := by rw [decide_eq_decide]; unfold YY; omega
  have e2 : decide (p.f1 < (PC l (i + 1)).f1) = decide (0 < YY l (i + 1) - p.f1) := by rw [decide_eq_decide]; unfold YY; omega
  have e3 : decide ((PC l i).f1 < (PC l (i + 1)).f1) = decide (YY l i - p.f1 < YY l (i + 1) - p.f1) := by rw [decide_eq_decide]; unfold YY; omega
  have e4 : decide (0 < sgnP (PC l i) (PC l (i + 1)) p) = decide (0 < cro (XX l i - p.f0) (YY l i - p.f1) (XX l (i + 1) - p.f0) (YY l (i + 1) - p.f1)) := by
    rw [decide_eq_decide, sgn_eq (pvp hv _) (pvp hv _) hp]
    have c : crs (PC l i).f0 (PC l i).f1 (PC l (i + 1)).f0 (PC l (i + 1)).f1 p.f0 p.f1 = cro (XX l i - p.f0) (YY l i - p.f1) (XX l (i + 1) - p.f0) (YY l (i + 1) - p.f1) := by unfold crs cro XX YY; grind
    rw [c]
    unfold sgn; split <;> (try split) <;> omega
  rw [e1, e2, e3, e4]
theorem par_sum {n : Nat} {f : Nat → Int} : sm 0 n (fun i => ((f i).natAbs : Int)) % 2 = sm 0 n f % 2 := by
  induction n with
  | zero => rfl
  | succ n ih => rw [sm, sm]; omega
/-- The place of a point, by the crossings. -/
theorem place_geo {l : List Pt} (h : okS l = true) {p : Pt} (hp : PVP p) :
    (placeR l p = 0 ∧ inI l.length (XX l) (YY l) p.f0 p.f1 = 0 ∧ onI l.length (XX l) (YY l) p.f0 p.f1 = 1 ∧ ∃ j, j < l.length ∧ onP (XX l j) (YY l j) (XX l (j + 1)) (YY l (j + 1)) p.f0 p.f1) ∨
    ((¬ ∃ j, j < l.length ∧ onP (XX l j) (YY l j) (XX l (j + 1)) (YY l (j + 1)) p.f0 p.f1) ∧ onI l.length (XX l) (YY l) p.f0 p.f1 = 0 ∧
      ((placeR l p = -1 ∧ inI l.length (XX l) (YY l) p.f0 p.f1 = 0 ∧ wn l.length (XX l) (YY l) p.f0 p.f1 = 0) ∨
       (placeR l p = 1 ∧ inI l.length (XX l) (YY l) p.f0 p.f1 = 1 ∧ wn l.length (XX l) (YY l) p.f0 p.f1 ≠ 0))) := by
  have hv := (okS_iff.1 h).1
  have h3 := (cvB_iff.1 hv).1
  have S := okS_simple h
  rcases onP_dec l p with ho | ho
  · left
    refine ⟨?_, ?_, ?_, ho⟩
    · obtain ⟨j, hj, o⟩ := ho
      exact place_on (by omega) ((on_X hv hp j).2 o)
    · unfold inI; rw [if_pos (.inl ho)]
    · unfold onI; rw [if_pos ho]
  · right
    have o := offs_not S ho
    refine ⟨ho, by unfold onI; rw [if_neg ho], ?_⟩
    have off : ∀ i, onX l p i = false := fun i => by
      rw [← onX_per]
      cases c : onX l p (i % l.length)
      · rfl
      · exact (ho ⟨i % l.length, Nat.mod_lt _ (by omega), (on_X hv hp _).1 c⟩).elim
    have e : sm 0 l.length (flX l p) = sm 0 l.length (fun i => ((side (XX l) (YY l) p.f0 p.f1 i).natAbs : Int)) := sm_congr (fun i _ hi => flX_cr hv hp o (by omega))
    have q : sm 0 l.length (flX l p) % 2 = wn l.length (XX l) (YY l) p.f0 p.f1 % 2 := by rw [e, par_sum]; rfl
    have w1 := wn_off S o
    have w2 := wl_01 S
    rw [place_off off]
    unfold parI
    by_cases z : wn l.length (XX l) (YY l) p.f0 p.f1 = 0
    · left
      rw [z] at q
      exact ⟨if_pos (by omega), by unfold inI; rw [if_pos (.inr z)], z⟩
    · right
      refine ⟨if_neg ?_, by unfold inI; rw [if_neg (fun c => c.elim ho z)], z⟩
      rw [q]
      rcases w2 with w2 | w2 <;> rw [w2] at w1 <;> omega
end Go.Proofs.Ytgdhgncdpmalcaa.Pure
namespace Go.Proofs.Ytgdhgncdpmalcaa.Geo
open Go.Proofs.Ytgdhgncdpmalcaa.Pure
set_option linter.unusedVariables false
theorem sm_one {f : Nat → Int} (h : ∀ j, 0 ≤ f j) {a k : Nat} (ha : a < k) : f a ≤ sm 0 k f := by
  have nn : ∀ m, 0 ≤ sm 0 m f := by
    intro m
    induction m with
    | zero => exact Int.le_refl _
    | succ m ih => rw [sm]; have := h (0 + m); omega
  induction k with
  | zero => omega
  | succ k ih =>
    rw [sm, Nat.zero_add]
    by_cases e : a = k
    · subst e; have := nn a; omega
    · have := ih (by omega); have := h k; omega
theorem sm_two {f : Nat → Int} (h : ∀ j, 0 ≤ f j) {a b k : Nat} (hab : a < b) (hb : b < k) : f a + f b ≤ sm 0 k f := by
  induction k with
  | zero => omega
  | succ k ih =>
    rw [sm, Nat.zero_add]
    by_cases e : b = k
    · subst e; have := sm_one h hab; omega
    · have := ih (by omega); have := h k; omega
theorem trans_ex {P : Nat → Prop} {a b : Nat} (hab : a < b) (ha : P a) (hb : ¬ P b) : ∃ t, a ≤ t ∧ t < b ∧ P t ∧ ¬ P (t + 1) := by
  induction b with
  | zero => omega
  | succ b ih =>
    by_cases c : P b
    · exact ⟨b, by omega, by omega, c, hb⟩
    · by_cases d : a = b
      · subst d; exact (c ha).elim
      · obtain ⟨t, h1, h2, h3, h4⟩ := ih (by omega) c
        exact ⟨t, h1, by omega, h3, h4⟩
theorem cr_nn {a b c d : Int} (h : 0 ≤ cro a b c d) : 0 ≤ cr a b c d := by
  unfold cr
  repeat' split
  all_goals omega
theorem fwd_cro {a b c d : Int} (h : Fwd a b c d) (h1 : low a b) (h2 : ¬ low c d) : cro a b c d ≠ 0 := by
  obtain ⟨x, y, g1, g2⟩ := h
  intro z
  have k1 : d * (x * a + y * b) - b * (x * c + y * d) = x * cro a b c d := by unfold cro; grind
  have k2 : c * (x * a + y * b) - a * (x * c + y * d) = -(y * cro a b c d) := by unfold cro; grind
  rw [z] at k1 k2
  unfold low at h1 h2
  rcases h1 with h1 | ⟨h1, h1'⟩
  · have m1 := Int.mul_pos (show 0 < -b by omega) g2
    have m2 := Int.mul_nonneg (show 0 ≤ d by omega) (Int.le_of_lt g1)
    rw [Int.neg_mul] at m1; omega
  · subst h1
    have m1 := Int.mul_pos h1' g2
    have hd : d = 0 := by
      have : d * (x * a + y * 0) = 0 := by omega
      rcases Int.mul_eq_zero.1 this with q | q
      · exact q
      · omega
    have m2 := Int.mul_nonneg (show 0 ≤ -c by omega) (Int.le_of_lt g1)
    rw [Int.neg_mul] at m2; omega
theorem cr_up {a b c d : Int} (h : Fwd a b c d) (hc : 0 ≤ cro a b c d) (h1 : low a b) (h2 : ¬ low c d) : cr a b c d = 1 := by
  have := fwd_cro h h1 h2
  unfold cr; rw [if_pos h1, if_neg h2, if_pos (by omega)]
theorem conv0 {n : Nat} {X Y : Nat → Int} (h : Simple n X Y) (hc : ∀ i, 0 ≤ cro (X (i + 1) - X i) (Y (i + 1) - Y i) (X (i + 2) - X (i + 1)) (Y (i + 2) - Y (i + 1))) (hy : Y 1 = Y 0) (hx : X 0 < X 1) (i : Nat) (hi : i ≤ n) : Y 0 ≤ Y i := by
  have n3 := h.n3
  have py : Y n = Y 0 := by have := h.py 0; rwa [Nat.zero_add] at this
  have nn : ∀ j, 0 ≤ turn X Y j := fun j => cr_nn (hc j)
  have uniq : ∀ a b, a < b → b < n → ¬ ((low (X (a + 1) - X a) (Y (a + 1) - Y a) ∧ ¬ low (X (a + 2) - X (a + 1)) (Y (a + 2) - Y (a + 1))) ∧ (low (X (b + 1) - X b) (Y (b + 1) - Y b) ∧ ¬ low (X (b + 2) - X (b + 1)) (Y (b + 2) - Y (b + 1)))) := by
    rintro a b hab hb ⟨⟨a1, a2⟩, b1, b2⟩
    have t1 : turn X Y a = 1 := cr_up (h.fwd a) (hc a) a1 a2
    have t2 : turn X Y b = 1 := cr_up (h.fwd b) (hc b) b1 b2
    have s := sm_two nn hab hb
    have r := rot_wl h
    have w := wl_01 h
    omega
  have l0 : low (X 1 - X 0) (Y 1 - Y 0) := by unfold low; omega
  -- either all the rest goes down, or nothing ahead did
  by_cases c : ∃ k, i ≤ k ∧ k < n ∧ ¬ low (X (k + 1) - X k) (Y (k + 1) - Y k)
  · obtain ⟨k, hk, hkn, nk⟩ := c
    have up : ∀ m, m < i → 0 ≤ Y (m + 1) - Y m := by
      intro m hm
      by_cases lm : low (X (m + 1) - X m) (Y (m + 1) - Y m)
      · obtain ⟨t, ht1, ht2, ht3, ht4⟩ := trans_ex (P := fun q => low (X (q + 1) - X q) (Y (q + 1) - Y q)) (show m < k by omega) lm nk
        have all : ∀ q, q ≤ m → low (X (q + 1) - X q) (Y (q + 1) - Y q) := by
          intro q hq
          apply Classical.byContradiction; intro nq
          have q0 : 0 < q := by
            rcases Nat.eq_zero_or_pos q with z | z
            · subst z; exact (nq l0).elim
            · exact z
          obtain ⟨s, hs1, hs2, hs3, hs4⟩ := trans_ex (P := fun q => low (X (q + 1) - X q) (Y (q + 1) - Y q)) q0 l0 nq
          exact uniq s t (by omega) (by omega) ⟨⟨hs3, hs4⟩, ⟨ht3, ht4⟩⟩
        have flat : ∀ q, q ≤ m → Y (q + 1) - Y q = 0 ∧ 0 < X (q + 1) - X q := by
          intro q hq
          induction q with
          | zero => simp only [Nat.zero_add]; omega
          | succ q ih =>
            have f := ih (by omega)
            have lq := all (q + 1) hq
            have cq := hc q
            unfold cro at cq
            rw [f.1, Int.zero_mul] at cq
            have : 0 ≤ Y (q + 2) - Y (q + 1) := by
              apply Classical.byContradiction; intro z
              have := Int.mul_pos f.2 (show 0 < -(Y (q + 2) - Y (q + 1)) by omega)
              rw [Int.mul_neg] at this; omega
            unfold low at lq
            simp only [Nat.add_assoc, Nat.reduceAdd] at lq ⊢
            omega
        have := flat m (Nat.le_refl _)
        omega
      · unfold low at lm; omega
    have : ∀ m, m ≤ i → Y 0 ≤ Y m := by
      intro m hm
      induction m with
      | zero => omega
      | succ m ih => have := ih (by omega); have := up m (by omega); omega
    exact this i (Nat.le_refl _)
  · have dn : ∀ k, i ≤ k → k < n → Y (k + 1) - Y k ≤ 0 := by
      intro k h1 h2
      have : low (X (k + 1) - X k) (Y (k + 1) - Y k) := Classical.byContradiction fun z => c ⟨k, h1, h2, z⟩
      unfold low at this; omega
    have : ∀ m, i + m ≤ n → Y (i + m) ≤ Y i := by
      intro m hm
      induction m with
      | zero => exact Int.le_refl _
      | succ m ih => have := ih (by omega); have := dn (i + m) (by omega) (by omega); rw [← Nat.add_assoc]; omega
    have := this (n - i) (by omega)
    rw [show i + (n - i) = n by omega, py] at this
    exact this
/-- Turned and scaled by a direction. -/
theorem Simple.turned {n : Nat} {X Y : Nat → Int} (h : Simple n X Y) {p q : Int} (hp : ¬ (p = 0 ∧ q = 0)) : Simple n (fun i => p * X i + q * Y i) (fun i => p * Y i - q * X i) := by
  have hD := norm_pos hp
  have e : ∀ g k a b c d : Int, (p * g + q * k) * ((p * a + q * b) - (p * c + q * d)) + (p * k - q * g) * ((p * b - q * a) - (p * d - q * c)) = (p * p + q * q) * (g * (a - c) + k * (b - d)) := by intros; grind
  refine ⟨h.n3, fun i => by rw [h.px, h.py], fun i => by rw [h.px, h.py], fun i j a b => ?_, fun i => ?_⟩
  · obtain ⟨g, k, h1, h2, h3, h4⟩ := h.sep i j a b
    exact ⟨p * g + q * k, p * k - q * g, by rw [e]; exact Int.mul_pos hD h1, by rw [e]; exact Int.mul_pos hD h2, by rw [e]; exact Int.mul_pos hD h3, by rw [e]; exact Int.mul_pos hD h4⟩
  · obtain ⟨g, k, h1, h2⟩ := h.fwd i
    exact ⟨p * g + q * k, p * k - q * g, by rw [e]; exact Int.mul_pos hD h1, by rw [e]; exact Int.mul_pos hD h2⟩
/-- All corners lie to the left of each side. -/
theorem conv_left {n : Nat} {X Y : Nat → Int} (h : Simple n X Y) (hc : ∀ i, 0 ≤ cro (X (i + 1) - X i) (Y (i + 1) - Y i) (X (i + 2) - X (i + 1)) (Y (i + 2) - Y (i + 1))) (j i : Nat) (hj : j ≤ i) (hi : i ≤ j + n) : 0 ≤ crs (X j) (Y j) (X (j + 1)) (Y (j + 1)) (X i) (Y i) := by
  have ed := h.edge j
  have hD := norm_pos ed
  have T := (h.shift j).turned ed
  have c := conv0 T (fun t => by
    have m := Int.mul_nonneg (Int.le_of_lt hD) (hc (t + j))
    rw [show t + j + 1 = t + 1 + j by omega, show t + j + 2 = t + 2 + j by omega] at m
    have e : ∀ a b c d e f : Int, cro (((X (j + 1) - X j) * c + (Y (j + 1) - Y j) * d) - ((X (j + 1) - X j) * a + (Y (j + 1) - Y j) * b)) (((X (j + 1) - X j) * d - (Y (j + 1) - Y j) * c) - ((X (j + 1) - X j) * b - (Y (j + 1) - Y j) * a))
        (((X (j + 1) - X j) * e + (Y (j + 1) - Y j) * f) - ((X (j + 1) - X j) * c + (Y (j + 1) - Y j) * d)) (((X (j + 1) - X j) * f - (Y (j + 1) - Y j) * e) - ((X (j + 1) - X j) * d - (Y (j + 1) - Y j) * c)) =
        ((X (j + 1) - X j) * (X (j + 1) - X j) + (Y (j + 1) - Y j) * (Y (j + 1) - Y j)) * cro (c - a) (d - b) (e - c) (f - d) := by intros; unfold cro; grind
    rw [e]; exact m) (by
      rw [Nat.zero_add, Nat.add_comm 1 j]; grind) (by
      rw [Nat.zero_add, Nat.add_comm 1 j]; grind) (i - j) (by omega)
  rw [Nat.zero_add, show i - j + j = i by omega] at c
  unfold crs
  grind
/-- The middle of two corners, where it lies on no side. -/
theorem conv_mid {n : Nat} {X Y : Nat → Int} (h : Simple n X Y) (hc : ∀ i, 0 ≤ cro (X (i + 1) - X i) (Y (i + 1) - Y i) (X (i + 2) - X (i + 1)) (Y (i + 2) - Y (i + 1))) {k l : Nat} (hk : k < n) (hl : l < n) {x y : Int}
    (hx : 2 * x = X k + X l) (hy : 2 * y = Y k + Y l) (ho : Offs n X Y x y) : wn n X Y x y ≠ 0 := by
  have n3 := h.n3
  have left : ∀ j, j < n → ∀ i, i < n → 0 ≤ crs (X j) (Y j) (X (j + 1)) (Y (j + 1)) (X i) (Y i) := by
    intro j hj i hi
    rcases Nat.lt_or_ge i j with q | q
    · have := conv_left h hc j (i + n) (by omega) (by omega)
      rw [h.px, h.py] at this; exact this
    · exact conv_left h hc j i q (by omega)
  have nn : ∀ j, j < n → 0 ≤ cro (X j - x) (Y j - y) (X (j + 1) - x) (Y (j + 1) - y) := by
    intro j hj
    have a := left j hj k hk
    have b := left j hj l hl
    unfold crs at a b
    have e1 : cro (X j - x) (Y j - y) (X (j + 1) - x) (Y (j + 1) - y) = (X (j + 1) - X j) * (y - Y j) - (Y (j + 1) - Y j) * (x - X j) := by unfold cro; grind
    have e2 : 2 * ((X (j + 1) - X j) * (y - Y j) - (Y (j + 1) - Y j) * (x - X j)) = (X (j + 1) - X j) * (2 * y - 2 * Y j) - (Y (j + 1) - Y j) * (2 * x - 2 * X j) := by grind
    have e3 : (X (j + 1) - X j) * (2 * y - 2 * Y j) - (Y (j + 1) - Y j) * (2 * x - 2 * X j) = ((X (j + 1) - X j) * (Y k - Y j) - (Y (j + 1) - Y j) * (X k - X j)) + ((X (j + 1) - X j) * (Y l - Y j) - (Y (j + 1) - Y j) * (X l - X j)) := by rw [hx, hy]; grind
    omega
  have per : ∀ j, side X Y x y (j + n) = side X Y x y j := side_period h.px h.py x y
  intro w0
  have nn2 : ∀ j, j < n → 0 ≤ side X Y x y j := fun j hj => cr_nn (nn j hj)
  have z : ∀ j, j < n → side X Y x y j = 0 := by
    intro j hj
    have : ∀ m, m ≤ n → (∀ j, j < m → side X Y x y j = 0) ∨ 0 < sm 0 m (side X Y x y) := by
      intro m
      induction m with
      | zero => intro _; exact .inl (fun j hj => by omega)
      | succ m ih =>
        intro hm
        have s := nn2 m (by omega)
        rw [sm, Nat.zero_add]
        rcases ih (by omega) with q | q
        · by_cases e : side X Y x y m = 0
          · refine .inl (fun j hj => ?_)
            by_cases d : j = m
            · subst d; exact e
            · exact q j (by omega)
          · right
            have : sm 0 m (side X Y x y) = 0 := sm_zero (fun j _ b => q j (by omega))
            omega
        · right; omega
    rcases this n (Nat.le_refl _) with q | q
    · exact q j hj
    · have : sm 0 n (side X Y x y) = 0 := w0
      omega
  have notr : ∀ t, ¬ (low (X t - x) (Y t - y) ∧ ¬ low (X (t + 1) - x) (Y (t + 1) - y)) := by
    rintro t ⟨t1, t2⟩
    have hm := Nat.mod_lt t (show 0 < n by omega)
    have e1 := mod_eq' h.px t; have e2 := mod_eq' h.py t
    have d := Nat.div_add_mod t n
    have e3 : X (t + 1) = X (t % n + 1) := by have := mod_eq h.px (t % n + 1) (t / n); rw [show t % n + 1 + t / n * n = t + 1 by rw [Nat.mul_comm]; omega] at this; exact this
    have e4 : Y (t + 1) = Y (t % n + 1) := by have := mod_eq h.py (t % n + 1) (t / n); rw [show t % n + 1 + t / n * n = t + 1 by rw [Nat.mul_comm]; omega] at this; exact this
    rw [e1, e2] at t1; rw [e3, e4] at t2
    have o := ho (t % n) hm
    have := cr_up o (nn _ hm) t1 t2
    have := z _ hm
    unfold side at this
    omega
  have flip : ∀ a b, a < n → b < n → low (X a - x) (Y a - y) → low (X b - x) (Y b - y) := by
    intro a b ha hb la
    apply Classical.byContradiction; intro nb
    have nb' : ¬ low (X (b + n) - x) (Y (b + n) - y) := by rw [h.px, h.py]; exact nb
    obtain ⟨t, _, _, t1, t2⟩ := trans_ex (P := fun q => low (X q - x) (Y q - y)) (show a < b + n by omega) la nb'
    exact notr t ⟨t1, t2⟩
  have nz : ¬ (X k - x = 0 ∧ Y k - y = 0) := by
    rintro ⟨a, b⟩
    obtain ⟨g, c, h1, _⟩ := ho k hk
    rw [a, b] at h1; simp at h1
  have e1 : X l - x = -(X k - x) := by omega
  have e2 : Y l - y = -(Y k - y) := by omega
  have ln := low_neg nz
  rw [← e1, ← e2] at ln
  by_cases c : low (X k - x) (Y k - y)
  · exact ln.1 (flip k l hk hl c) c
  · exact c (flip l k hl hk (ln.2 c))
end Go.Proofs.Ytgdhgncdpmalcaa.Geo
namespace Go.Proofs.Ytgdhgncdpmalcaa.Pure
open Go.RowKit Go.Proofs.Ytgdhgncdpmalcaa.Q Go.Proofs.Ytgdhgncdpmalcaa.Ring Go.Proofs.YtgdhgncdpmalcaaW.PrintWords Go.Proofs.YtgdhgncdpmalcaaW.PrintLast
theorem pwC {x : Int} (h0 : 0 ≤ x) (h1 : x ≤ 4611686018427387904) : wrap64 x = x := by unfold wrap64; omega
theorem idx_1 {j n : Nat} (hj : j < n) (hn : n ≤ 1048576) : Int.tmod (wrap64 ((j : Int) + 1)) (n : Int) = (((j + 1) % n : Nat) : Int) := by
  rw [pwC (by omega) (by omega), show (j : Int) + 1 = ((j + 1 : Nat) : Int) by omega, Int.tmod_eq_emod_of_nonneg (by omega)]
  simp
theorem idx_2 {j n : Nat} (hj : j < n) (hn : n ≤ 1048576) : Int.tmod (wrap64 ((j : Int) + 2)) (n : Int) = ((((j + 1) % n + 1) % n : Nat) : Int) := by
  rw [pwC (by omega) (by omega), show (j : Int) + 2 = ((j + 2 : Nat) : Int) by omega, Int.tmod_eq_emod_of_nonneg (by omega), Nat.mod_add_mod, show j + 1 + 1 = j + 2 from rfl]
  simp
theorem Convex_l0 {l : List Pt} (hl : l.length ≤ 1048576) (pv : ∀ j, j < l.length → PVP (at_ l j)) (n : Nat) :
    ∀ (j k : Nat), j + n = l.length → n < k → (∀ i, i < j → bent l i = false) → spec_PolyConvex.l0 k l (sgI (areaS l l.length)) (l.length : Int) (j : Int) = some (convR l) := by
  induction n with
  | zero =>
    intro j k hj hk hp
    obtain ⟨k, rfl⟩ : ∃ m, k = m + 1 := ⟨k - 1, by omega⟩
    rw [spec_PolyConvex.l0, if_neg (by omega), convR_yes (fun i hi => hp i (by omega))]
  | succ n ih =>
    intro j k hj hk hp
    obtain ⟨k, rfl⟩ : ∃ m, k = m + 1 := ⟨k - 1, by omega⟩
    have hjl : j < l.length := by omega
    have h1 : (j + 1) % l.length < l.length := Nat.mod_lt _ (by omega)
    have h2 : ((j + 1) % l.length + 1) % l.length < l.length := Nat.mod_lt _ (by omega)
    rw [spec_PolyConvex.l0, if_pos (by omega), if_pos (by omega), if_pos (by omega), if_neg (by omega), idx_1 hjl hl, idx_2 hjl hl, if_pos (by omega), if_pos (by omega), if_pos (by omega), if_pos (by omega)]
    simp only [at_rd]
    rw [side_f (pv j hjl) (pv _ h1) (pv _ h2), show wrap64 ((j : Int) + 1) = ((j + 1 : Nat) : Int) by rw [pwC (by omega) (by omega)]; omega]
    simp only [Option.bind_some]
    by_cases h : sgnP (at_ l j) (at_ l ((j + 1) % l.length)) (at_ l (((j + 1) % l.length + 1) % l.length)) = wrap64 (-sgI (areaS l l.length))
    · rw [if_pos h, convR_no hjl]
      unfold bent turnS nxt
      exact beq_iff_eq.2 h
    · rw [if_neg h]
      refine ih (j + 1) k (by omega) (by omega) (fun i hi => ?_)
      by_cases e : i = j
      · subst e
        unfold bent turnS nxt
        exact beq_eq_false_iff_ne.2 h
      · exact hp i (by omega)
def convexR (l : List Pt) : Bool := okS l && convR l
theorem specConvex_eq {l : List Pt} (h : l.length ≤ 1048576) (k : Nat) (hk : l.length + 2 < k) : spec_PolyConvex.f k l = some (convexR l) := by
  unfold spec_PolyConvex.f convexR
  rw [show spec_PolyValid.f l = some (okS l) from if_pos h]
  simp only [Option.bind_some]
  cases c : okS l
  · rfl
  · have hcv : cvB l = true := by unfold okS at c; exact (Bool.and_eq_true_iff.1 c).1
    rw [if_pos rfl]
    unfold spec_l31Area.f
    rw [show spec_l31Area.l0 k l 0 0 = some (areaS l l.length) from Area_l0 h l.length 0 k (by omega) (by omega)]
    simp only [Option.bind_some, l1Sign_eq, Bool.true_and]
    exact Convex_l0 h (fun j hj => pv_at hcv hj) l.length 0 k (by omega) (by omega) (fun i hi => by omega)
theorem implConvex_eq (l : List Pt) : impl_PolyConvex.f l = some (convexR l) := by
  unfold impl_PolyConvex.f convexR
  cases okS l <;> rfl
end Go.Proofs.Ytgdhgncdpmalcaa.Pure
namespace Go.Proofs.Ytgdhgncdpmalcaa.Pure
open Go.RowKit Go.Proofs.Ytgdhgncdpmalcaa.Q Go.Proofs.Ytgdhgncdpmalcaa.Ring Go.Proofs.Ytgdhgncdpmalcaa.Geo Go.Proofs.YtgdhgncdpmalcaaW.PrintWords Go.Proofs.YtgdhgncdpmalcaaW.PrintLast
set_option linter.unusedVariables false
/-- How three corners that follow each other turn. -/
def trn (l : List Pt) (k : Nat) : Int := crs (XX l k) (YY l k) (XX l (k + 1)) (YY l (k + 1)) (XX l (k + 2)) (YY l (k + 2))
theorem sgn_le (x : Int) : -1 ≤ sgn x ∧ sgn x ≤ 1 := by unfold sgn; split <;> (try split) <;> omega
theorem bent_iff {l : List Pt} (h : cvB l = true) {k : Nat} (hk : k < l.length) : bent l k = true ↔ sgn (trn l k) = -(sgn (area2 l)) := by
  unfold bent turnS sgI
  have a := sgn_le (area2 l)
  rw [areaS_eq h, pw64 (x := -(sgn (area2 l))) (by omega) (by omega), beq_iff_eq]
  have e : nxt l ((k + 1) % l.length) = PC l (k + 2) := by rw [PC_nxt, PC_mod1]
  rw [e, PC_nxt, ← PC_at hk, sgn_eq (pvp h _) (pvp h _) (pvp h _)]
  rfl
theorem conv_iff {l : List Pt} (h : cvB l = true) : convR l = true ↔ ∀ k, sgn (trn l k) ≠ -(sgn (area2 l)) := by
  have hv := (cvB_iff.1 h).1
  have per : ∀ k, trn l (k % l.length) = trn l k := fun k => by unfold trn XX YY; rw [PC_mod, PC_mod1, PC_mod1]
  constructor
  · intro c k e
    have hm := Nat.mod_lt k (show 0 < l.length by omega)
    have := convR_no hm ((bent_iff h hm).2 (by rw [per]; exact e))
    rw [this] at c; cases c
  · intro c
    exact convR_yes (fun k hk => by
      cases b : bent l k
      · rfl
      · exact (c k ((bent_iff h hk).1 b)).elim)
theorem conv_beg {l : List Pt} (h : okS l = true) (hc : convR l = true) {k : Nat} (hk : k < l.length) : convR (begL l k) = true := by
  have hv := (okS_iff.1 h).1
  have c := (conv_iff hv).1 hc
  refine (conv_iff (by rw [cv_beg (by omega)]; exact hv)).2 (fun i => ?_)
  have := c (i + k)
  rw [area2_beg hk]
  have e : trn (begL l k) i = trn l (i + k) := by
    unfold trn XX YY
    rw [PC_beg hk, PC_beg hk, PC_beg hk, show i + 1 + k = i + k + 1 by omega, show i + 2 + k = i + k + 2 by omega]
  rw [e]; exact this
theorem trn_back {l : List Pt} (h3 : 3 ≤ l.length) (i : Nat) : ∃ j, trn (backL l) i = -(trn l j) := by
  have hm := Nat.mod_lt i (show 0 < l.length by omega)
  refine ⟨2 * l.length - (i % l.length + 2), ?_⟩
  have rx : ∀ d, d ≤ 2 → PC (backL l) (i + d) = PC l (2 * l.length - (i % l.length + d)) := fun d hd => by
    rw [PC_backm (by omega), ← Nat.mod_add_mod]
    have : ∀ e, e ≤ 2 * l.length → PC l (l.length - e % l.length) = PC l (2 * l.length - e) := by
      intro e he
      by_cases h : e < l.length
      · rw [Nat.mod_eq_of_lt h, ← PC_per l (l.length - e)]; congr 1; omega
      · by_cases h2 : e < 2 * l.length
        · rw [show e = (e - l.length) + l.length by omega, Nat.add_mod_right, Nat.mod_eq_of_lt (by omega)]; congr 1; omega
        · obtain rfl : e = 2 * l.length := by omega
          rw [Nat.mul_mod_left, Nat.sub_zero, Nat.sub_self, show l.length = 0 + l.length by omega, PC_per]
    exact this _ (by omega)
  unfold trn XX YY
  have e0 := rx 0 (by omega)
  rw [Nat.add_zero, Nat.add_zero] at e0
  rw [e0, rx 1 (by omega), rx 2 (by omega), show 2 * l.length - (i % l.length + 2) + 1 = 2 * l.length - (i % l.length + 1) by omega, show 2 * l.length - (i % l.length + 2) + 2 = 2 * l.length - i % l.length by omega]
  unfold crs; grind
theorem conv_back {l : List Pt} (h : okS l = true) (hc : convR l = true) : convR (backL l) = true := by
  have hv := (okS_iff.1 h).1
  have h3 := (cvB_iff.1 hv).1
  have c := (conv_iff hv).1 hc
  refine (conv_iff (by rw [cv_back]; exact hv)).2 (fun i => ?_)
  obtain ⟨j, e⟩ := trn_back h3.1 i
  have := c j
  rw [area2_back, e]
  have n : ∀ x, sgn (-x) = -sgn x := sgn_opp'
  rw [n, n]
  omega
/-- Counter-clockwise and convex. -/
theorem conv_pos {l : List Pt} (h : okS l = true) (hc : convR l = true) (ha : 0 < area2 l) (i : Nat) : 0 ≤ cro (XX l (i + 1) - XX l i) (YY l (i + 1) - YY l i) (XX l (i + 2) - XX l (i + 1)) (YY l (i + 2) - YY l (i + 1)) := by
  have hv := (okS_iff.1 h).1
  have c := (conv_iff hv).1 hc i
  have e : cro (XX l (i + 1) - XX l i) (YY l (i + 1) - YY l i) (XX l (i + 2) - XX l (i + 1)) (YY l (i + 2) - YY l (i + 1)) = trn l i := by unfold trn cro crs; grind
  rw [e]
  rw [sgn_pos ha] at c
  apply Classical.byContradiction; intro n
  exact c (sgn_neg (by omega))
theorem mid_pos' {l : List Pt} (h : okS l = true) (hc : convR l = true) (ha : 0 < area2 l) {i j : Nat} (hi : i < l.length) (hj : j < l.length) {p : Pt} (hp : PVP p) (hx : 2 * p.f0 = (PC l i).f0 + (PC l j).f0) (hy : 2 * p.f1 = (PC l i).f1 + (PC l j).f1) : 0 ≤ placeR l p := by
  have S := okS_simple h
  rcases place_geo h hp with ⟨q, _⟩ | ⟨no, _, ⟨_, _, w⟩ | ⟨q, _⟩⟩
  · omega
  · exact (conv_mid S (conv_pos h hc ha) hi hj hx hy (offs_not S no) w).elim
  · omega
/-- The middle of two corners of a convex polygon is not outside. -/
theorem conv_middle {l : List Pt} (h : okS l = true) (hc : convR l = true) {i j : Nat} (hi : i < l.length) (hj : j < l.length) {p : Pt} (hp : PVP p) (hx : 2 * p.f0 = (PC l i).f0 + (PC l j).f0) (hy : 2 * p.f1 = (PC l i).f1 + (PC l j).f1) : 0 ≤ placeR l p := by
  have hv := (okS_iff.1 h).1
  rcases Int.lt_trichotomy (area2 l) 0 with a | a | a
  · rw [← place_back hv hp]
    have e : ∀ t, t < l.length → ∃ s, s < (backL l).length ∧ PC (backL l) s = PC l t := fun t ht => by
      rcases Nat.eq_zero_or_pos t with z | z
      · subst z
        refine ⟨0, by rw [backL_len]; omega, ?_⟩
        rw [PC_back (by omega), Nat.sub_zero]
        have := PC_per l 0; rwa [Nat.zero_add] at this
      · exact ⟨l.length - t, by rw [backL_len]; omega, by rw [PC_back (by omega)]; congr 1; omega⟩
    obtain ⟨s1, a1, b1⟩ := e i hi
    obtain ⟨s2, a2, b2⟩ := e j hj
    exact mid_pos' (okS_back h) (conv_back h hc) (by rw [area2_back]; omega) a1 a2 hp (by rw [b1, b2]; exact hx) (by rw [b1, b2]; exact hy)
  · exact (area_ne h a).elim
  · exact mid_pos' h hc a hi hj hp hx hy
end Go.Proofs.Ytgdhgncdpmalcaa.Pure
namespace Go.Proofs.Ytgdhgncdpmalcaa.Pure
open Go.RowKit Go.Proofs.Ytgdhgncdpmalcaa.Q Go.Proofs.YtgdhgncdpmalcaaW.PrintWords Go.Proofs.YtgdhgncdpmalcaaW.PrintLast Go.Proofs.YtgdhgncdpmalcaaW.PrintMore

theorem rw64 {x : Int} (h0 : -9223372036854775808 ≤ x) (h1 : x ≤ 9223372036854775807) : wrap64 x = x := by
  unfold wrap64; omega

theorem xor_nonneg (x y : Int) (hx : 0 ≤ x) (hx' : x < 2 ^ 62) (hy : 0 ≤ y) (hy' : y < 2 ^ 62) : 0 ≤ Go.bits .xor .i64 x y := by
  obtain ⟨a, rfl⟩ : ∃ a : Nat, x = a := ⟨x.toNat, by omega⟩
  obtain ⟨b, rfl⟩ : ∃ b : Nat, y = b := ⟨y.toNat, by omega⟩
  have ha : a < 2 ^ 62 := by omega
  have hb : b < 2 ^ 62 := by omega
  have ha' : a % 2 ^ 64 = a := Nat.mod_eq_of_lt (by omega)
  have hb' : b % 2 ^ 64 = b := Nat.mod_eq_of_lt (by omega)
  have h := Nat.xor_lt_two_pow ha hb
  have e : Go.bits .xor .i64 (a : Int) (b : Int) = ((a ^^^ b : Nat) : Int) := by
    have e0 : Go.bits .xor .i64 (a : Int) (b : Int) = IntKind.i64.wrap ((BitVec.ofInt 64 (a : Int) ^^^ BitVec.ofInt 64 (b : Int)).toNat : Int) := rfl
    rw [e0, BitVec.ofInt_natCast, BitVec.ofInt_natCast, BitVec.toNat_xor, BitVec.toNat_ofNat, BitVec.toNat_ofNat, ha', hb', IntKind.wrap_i64]
    omega
  rw [e]
  exact Int.natCast_nonneg _

/-- All numbers of a list are bytes. -/
def Bts (b : List Int) : Prop := b.length ≤ 2000 ∧ ∀ x ∈ b, 0 ≤ x ∧ x ≤ 255
theorem Bts.at_ {b : List Int} (h : Bts b) (i : Int) : 0 ≤ rd b i ∧ rd b i ≤ 255 := by
  unfold rd
  by_cases hi : i.toNat < b.length
  · rw [List.getD_eq_getElem?_getD, List.getElem?_eq_getElem hi]; exact h.2 _ (List.getElem_mem hi)
  · rw [List.getD_eq_getElem?_getD, List.getElem?_eq_none (by omega)]; simp

theorem pick_ok (k : Nat) {b : List Int} {p n : Int} (hb : Bts b) (hp : 0 ≤ p ∧ p ≤ 1000000) (hn : 1 ≤ n) :
    ∃ v, spec_l6Rd_pick.f (k + 1) b p n = some (v, p + 1) ∧ 0 ≤ v ∧ v < n := by
  unfold spec_l6Rd_pick.f
  rw [if_neg (by omega), rw64 (x := p + 1) (by omega) (by omega)]
  simp only [spec_l6Rd_pick.j0]
  by_cases h0 : (b.length : Int) = 0
  · exact ⟨0, by rw [if_pos (by simpa using h0)], by omega, by omega⟩
  · rw [if_neg (by simpa using h0), show p + 1 - 1 = p by omega, rw64 (x := p) (by omega) (by omega)]
    have hlen : 0 < (b.length : Int) := by omega
    have hL := hb.1
    by_cases h1 : p < (b.length : Int)
    · rw [if_pos h1, if_pos hp.1, if_neg (by omega)]
      have hr := hb.at_ p
      rw [rw64 (by omega) (by omega), Int.tmod_eq_emod_of_nonneg hr.1]
      exact ⟨_, rfl, Int.emod_nonneg _ (by omega), Int.emod_lt_of_pos _ (by omega)⟩
    · rw [if_neg h1, if_neg h0]
      have q0 : 0 ≤ Int.tmod p (b.length : Int) := by rw [Int.tmod_eq_emod_of_nonneg hp.1]; exact Int.emod_nonneg _ (by omega)
      have q1 : Int.tmod p (b.length : Int) < (b.length : Int) := by rw [Int.tmod_eq_emod_of_nonneg hp.1]; exact Int.emod_lt_of_pos _ hlen
      rw [rw64 (x := p * 7) (by omega) (by omega), rw64 (x := p * 7 + 3) (by omega) (by omega)]
      have q2 : 0 ≤ Int.tmod (p * 7 + 3) (b.length : Int) := by rw [Int.tmod_eq_emod_of_nonneg (by omega)]; exact Int.emod_nonneg _ (by omega)
      have q3 : Int.tmod (p * 7 + 3) (b.length : Int) < (b.length : Int) := by rw [Int.tmod_eq_emod_of_nonneg (by omega)]; exact Int.emod_lt_of_pos _ hlen
      rw [if_pos q0, if_pos q1, if_pos q2, if_pos q3, if_neg (by omega)]
      have hr := hb.at_ (Int.tmod p (b.length : Int))
      have hs := hb.at_ (Int.tmod (p * 7 + 3) (b.length : Int))
      have hd : 0 ≤ Int.tdiv p (b.length : Int) ∧ Int.tdiv p (b.length : Int) ≤ p := by
        rw [Int.tdiv_eq_ediv_of_nonneg hp.1]
        exact ⟨Int.ediv_nonneg hp.1 (by omega), Int.ediv_le_self _ hp.1⟩
      generalize rd b (Int.tmod p (b.length : Int)) = u at *
      generalize rd b (Int.tmod (p * 7 + 3) (b.length : Int)) = v at *
      generalize Int.tdiv p (b.length : Int) = d at *
      rw [rw64 (x := u) (by omega) (by omega), rw64 (x := v) (by omega) (by omega), rw64 (x := u * 131) (by omega) (by omega), rw64 (x := v * 1117) (by omega) (by omega),
        rw64 (x := u * 131 + v * 1117) (by omega) (by omega), rw64 (x := p * 29) (by omega) (by omega), rw64 (x := u * 131 + v * 1117 + p * 29) (by omega) (by omega),
        rw64 (x := d) (by omega) (by omega), rw64 (x := d * 53) (by omega) (by omega), rw64 (x := u * 131 + v * 1117 + p * 29 + d * 53) (by omega) (by omega)]
      have hx : 0 ≤ u * 131 + v * 1117 + p * 29 + d * 53 := by omega
      have hx' : u * 131 + v * 1117 + p * 29 + d * 53 < 2 ^ 60 := by omega
      generalize u * 131 + v * 1117 + p * 29 + d * 53 = x at *
      have hy : 0 ≤ Int.tdiv x 64 ∧ Int.tdiv x 64 < 2 ^ 60 := by rw [Int.tdiv_eq_ediv_of_nonneg hx]; omega
      rw [rw64 (x := Int.tdiv x 64) (by omega) (by omega)]
      have hz := xor_nonneg x (Int.tdiv x 64) hx (by omega) hy.1 (by omega)
      rw [Int.tmod_eq_emod_of_nonneg hz]
      exact ⟨_, rfl, Int.emod_nonneg _ (by omega), Int.emod_lt_of_pos _ (by omega)⟩

theorem open_ok {l : List Int} (hl : ∀ x ∈ l, (Lit.int .u8 x).wf = true) : ∃ b, spec_l6Open.f l = some (b, 0) ∧ Bts b := by
  have hb : ∀ x ∈ l, 0 ≤ x ∧ x ≤ 255 := fun x hx => by
    have := hl x hx
    simp [Lit.wf, IntKind.min, IntKind.max, IntKind.signed, IntKind.bits] at this
    omega
  unfold spec_l6Open.f
  by_cases h : (l.length : Int) > 2000
  · rw [if_pos h, if_pos (by omega)]
    exact ⟨_, rfl, by rw [List.length_take]; omega, fun x hx => hb x (List.mem_of_mem_take hx)⟩
  · rw [if_neg h]
    exact ⟨_, rfl, by omega, hb⟩
end Go.Proofs.Ytgdhgncdpmalcaa.Pure
namespace Go.Proofs.Ytgdhgncdpmalcaa.Pure
open Go.RowKit Go.Proofs.Ytgdhgncdpmalcaa.Q Go.Proofs.YtgdhgncdpmalcaaW.PrintWords Go.Proofs.YtgdhgncdpmalcaaW.PrintLast Go.Proofs.YtgdhgncdpmalcaaW.PrintMore

theorem l91Point_ok (k : Nat) {b : List Int} {p : Int} (hb : Bts b) (hp : 0 ≤ p ∧ p ≤ 100000) :
    ∃ x y q, spec_l91Point.f (k + 1) b p = some (x, y, q) ∧ p ≤ q ∧ q ≤ p + 5 ∧ -10001 ≤ x ∧ x ≤ 10001 ∧ -10001 ≤ y ∧ y ≤ 10001 := by
  unfold spec_l91Point.f
  obtain ⟨v1, h1, _, _⟩ := pick_ok k hb (p := p) (n := 13) (by omega) (by omega)
  obtain ⟨v2, h2, _, _⟩ := pick_ok k hb (p := p + 1) (n := 13) (by omega) (by omega)
  obtain ⟨v3, h3, _, _⟩ := pick_ok k hb (p := p + 1 + 1) (n := 40) (by omega) (by omega)
  rw [h1]; simp only [Option.bind_some]
  rw [h2]; simp only [Option.bind_some]
  rw [h3]; simp only [Option.bind_some]
  rw [rw64 (x := v1 - 6) (by omega) (by omega), rw64 (x := v2 - 6) (by omega) (by omega)]
  by_cases e0 : v3 = 0
  · rw [if_pos e0]
    obtain ⟨v4, h4, _, _⟩ := pick_ok k hb (p := p + 1 + 1 + 1) (n := 3) (by omega) (by omega)
    rw [h4]; simp only [Option.bind_some]
    rw [if_pos (by omega), if_pos (by simp; omega)]
    refine ⟨_, _, _, rfl, by omega, by omega, ?_⟩
    have : v4 = 0 ∨ v4 = 1 ∨ v4 = 2 := by omega
    rcases this with rfl | rfl | rfl <;> refine ⟨by decide, by decide, by omega, by omega⟩
  · rw [if_neg e0]
    by_cases e1 : v3 = 1
    · rw [if_pos e1]
      obtain ⟨v4, h4, _, _⟩ := pick_ok k hb (p := p + 1 + 1 + 1) (n := 200) (by omega) (by omega)
      obtain ⟨v5, h5, _, _⟩ := pick_ok k hb (p := p + 1 + 1 + 1 + 1) (n := 200) (by omega) (by omega)
      rw [h4]; simp only [Option.bind_some]
      rw [h5]; simp only [Option.bind_some]
      rw [rw64 (x := v4 * 50) (by omega) (by omega), rw64 (x := v5 * 50) (by omega) (by omega), rw64 (x := v4 * 50 - 5000) (by omega) (by omega), rw64 (x := v5 * 50 - 5000) (by omega) (by omega)]
      exact ⟨_, _, _, rfl, by omega, by omega, by omega, by omega, by omega, by omega⟩
    · rw [if_neg e1]
      exact ⟨_, _, _, rfl, by omega, by omega, by omega, by omega, by omega, by omega⟩

end Go.Proofs.Ytgdhgncdpmalcaa.Pure
namespace Go.Proofs.Ytgdhgncdpmalcaa.Pure
open Go.RowKit Go.Proofs.Ytgdhgncdpmalcaa.Q Go.Proofs.YtgdhgncdpmalcaaW.PrintWords Go.Proofs.YtgdhgncdpmalcaaW.PrintLast Go.Proofs.YtgdhgncdpmalcaaW.PrintMore
theorem l92Box_ok (k : Nat) {b : List Int} {p : Int} (hb : Bts b) (hp : 0 ≤ p ∧ p ≤ 100000) : ∃ l q, spec_l92Box.f (k + 2) b p = some (l, q) ∧ p ≤ q ∧ q ≤ p + 10 ∧ l.length ≤ 12 := by
  unfold spec_l92Box.f
  obtain ⟨v1, h1, _, _⟩ := pick_ok (k + 1) hb (p := p) (n := 5) (by omega) (by omega)
  obtain ⟨v2, h2, _, _⟩ := pick_ok (k + 1) hb (p := p + 1) (n := 5) (by omega) (by omega)
  obtain ⟨v3, h3, _, _⟩ := pick_ok (k + 1) hb (p := p + 1 + 1) (n := 5) (by omega) (by omega)
  obtain ⟨v4, h4, _, _⟩ := pick_ok (k + 1) hb (p := p + 1 + 1 + 1) (n := 5) (by omega) (by omega)
  rw [h1]; simp only [Option.bind_some]
  rw [h2]; simp only [Option.bind_some]
  rw [h3]; simp only [Option.bind_some]
  rw [h4]; simp only [Option.bind_some]
  have j : ∀ (x y : Int) (l : List Pt) (c : Bool) (r : Int), l.length = 4 → p ≤ r → r ≤ p + 8 → ∃ l' q, spec_l92Box.j0 (k + 2) x y l c b r = some (l', q) ∧ p ≤ q ∧ q ≤ p + 10 ∧ l'.length ≤ 12 := by
    intro x y l c r hl h0 h8
    obtain ⟨v5, h5, _, _⟩ := pick_ok k hb (p := r) (n := 3) (by omega) (by omega)
    cases c
    · rw [spec_l92Box.j0, if_neg (by decide), h5]
      simp only [Option.bind_some]
      by_cases e : v5 = 0
      · rw [if_pos e, if_pos (by omega)]; exact ⟨_, _, rfl, by omega, by omega, by simp; omega⟩
      · rw [if_neg e]; exact ⟨_, _, rfl, by omega, by omega, by omega⟩
    · rw [spec_l92Box.j0, if_pos rfl, Option.bind_some, if_pos (by omega), Option.bind_some, if_pos (by simp; omega), Option.bind_some, h5]
      simp only [Option.bind_some]
      by_cases e : v5 = 0
      · rw [if_pos e, if_pos (by simp; omega)]; exact ⟨_, _, rfl, by omega, by omega, by simp; omega⟩
      · rw [if_neg e]; exact ⟨_, _, rfl, by omega, by omega, by simp; omega⟩
  by_cases e : wrap64 (1 + v3) > 1
  · rw [if_pos e]
    obtain ⟨v5, h5, _, _⟩ := pick_ok (k + 1) hb (p := p + 1 + 1 + 1 + 1) (n := 2) (by omega) (by omega)
    rw [h5]; simp only [Option.bind_some]
    exact j _ _ _ _ _ rfl (by omega) (by omega)
  · rw [if_neg e]
    exact j _ _ _ _ _ rfl (by omega) (by omega)
theorem l92Star_l0 {b : List Int} (hb : Bts b) {s : List Pt} (hs : s.length ≤ 12) (n : Nat) : ∀ (i : Nat) (x : List Pt) (p : Int) (k : Nat), i + n = s.length → n < k → x.length ≤ i → 0 ≤ p → p + 2 * n ≤ 100000 →
    ∃ l q, spec_l92Star.l0 k s x (i : Int) b p = some (l, q) ∧ p ≤ q ∧ q ≤ p + 2 * n ∧ l.length ≤ x.length + n := by
  induction n with
  | zero =>
    intro i x p k hi hk _ _ _
    obtain ⟨k, rfl⟩ : ∃ m, k = m + 1 := ⟨k - 1, by omega⟩
    exact ⟨x, p, by rw [spec_l92Star.l0, if_neg (by omega)], by omega, by omega, by omega⟩
  | succ n ih =>
    intro i x p k hi hk hx h0 hp
    obtain ⟨k, rfl⟩ : ∃ m, k = m + 2 := ⟨k - 2, by omega⟩
    have hw : wrap64 ((i : Int) + 1) = ((i + 1 : Nat) : Int) := by rw [pw64 (by omega) (by omega)]; omega
    rw [spec_l92Star.l0, if_pos (by omega)]
    obtain ⟨v1, h1, _, _⟩ := pick_ok k hb (p := p) (n := 3) (by omega) (by omega)
    by_cases e : Int.tmod (i : Int) 4 = 0
    · rw [if_pos e, h1]
      simp only [Option.bind_some]
      rw [if_pos (by omega), if_pos (by omega), hw]
      obtain ⟨l, q, e1, e2, e3, e4⟩ := ih (i + 1) (x ++ [(⟨wrap64 ((wrap64 (1 + v1)) * ((rd_T32 s (i : Int)).f0)), wrap64 ((wrap64 (1 + v1)) * ((rd_T32 s (i : Int)).f1))⟩ : Pt)]) (p + 1) (k + 1) (by omega) (by omega) (by simp; omega) (by omega) (by omega)
      exact ⟨l, q, e1, by omega, by omega, by simp at e4; omega⟩
    · rw [if_neg e, h1]
      simp only [Option.bind_some]
      by_cases e' : v1 = 0
      · obtain ⟨v2, h2, _, _⟩ := pick_ok k hb (p := p + 1) (n := 3) (by omega) (by omega)
        rw [if_pos e', h2]
        simp only [Option.bind_some]
        rw [if_pos (by omega), if_pos (by omega), hw]
        obtain ⟨l, q, e1, e2, e3, e4⟩ := ih (i + 1) (x ++ [(⟨wrap64 ((wrap64 (1 + v2)) * ((rd_T32 s (i : Int)).f0)), wrap64 ((wrap64 (1 + v2)) * ((rd_T32 s (i : Int)).f1))⟩ : Pt)]) (p + 1 + 1) (k + 1) (by omega) (by omega) (by simp; omega) (by omega) (by omega)
        exact ⟨l, q, e1, by omega, by omega, by simp at e4; omega⟩
      · rw [if_neg e', hw]
        obtain ⟨l, q, e1, e2, e3, e4⟩ := ih (i + 1) x (p + 1) (k + 1) (by omega) (by omega) (by omega) (by omega) (by omega)
        exact ⟨l, q, e1, by omega, by omega, by omega⟩
theorem l92Star_ok (k : Nat) {b : List Int} {p : Int} (hb : Bts b) (hp : 0 ≤ p ∧ p ≤ 10000) : ∃ l q, spec_l92Star.f (k + 20) b p = some (l, q) ∧ p ≤ q ∧ q ≤ p + 24 ∧ l.length ≤ 12 := by
  obtain ⟨l, q, e1, e2, e3, e4⟩ := l92Star_l0 hb (s := [(⟨2, 0⟩ : Pt), (⟨2, 1⟩ : Pt), (⟨1, 2⟩ : Pt), (⟨0, 2⟩ : Pt), (⟨(-1), 2⟩ : Pt), (⟨(-2), 1⟩ : Pt), (⟨(-2), 0⟩ : Pt), (⟨(-2), (-1)⟩ : Pt), (⟨(-1), (-2)⟩ : Pt), (⟨0, (-2)⟩ : Pt), (⟨1, (-2)⟩ : Pt), (⟨2, (-1)⟩ : Pt)]) (by decide) 12 0 [] p (k + 20) rfl (by omega) (by simp) (by omega) (by omega)
  exact ⟨l, q, e1, by omega, by omega, by simpa using e4⟩
theorem l92Poly_l0 {b : List Int} (hb : Bts b) {m : Int} (n : Nat) : ∀ (i : Int) (x : List Pt) (p : Int) (k : Nat), i + n = m → n < k → (x.length : Int) ≤ i → m ≤ 12 → 0 ≤ i → 0 ≤ p → p + 5 * n ≤ 100000 →
    ∃ l q, spec_l92Poly.l0 k x m i b p = some (l, q) ∧ p ≤ q ∧ q ≤ p + 5 * n ∧ l.length ≤ x.length + n := by
  induction n with
  | zero =>
    intro i x p k hi hk _ _ _ _ _
    obtain ⟨k, rfl⟩ : ∃ m, k = m + 1 := ⟨k - 1, by omega⟩
    exact ⟨x, p, by rw [spec_l92Poly.l0, if_neg (by omega)], by omega, by omega, by omega⟩
  | succ n ih =>
    intro i x p k hi hk hx hm hi0 h0 hp
    obtain ⟨k, rfl⟩ : ∃ m, k = m + 2 := ⟨k - 2, by omega⟩
    obtain ⟨u, v, r, h1, h2, h3, _⟩ := l91Point_ok k hb (p := p) (by omega)
    rw [spec_l92Poly.l0, if_pos (by omega), h1]
    simp only [Option.bind_some]
    rw [if_pos (by omega), pw64 (by omega) (by omega)]
    obtain ⟨l, q, e1, e2, e3, e4⟩ := ih (i + 1) (x ++ [(⟨u, v⟩ : Pt)]) r (k + 1) (by omega) (by omega) (by simp; omega) (by omega) (by omega) (by omega) (by omega)
    exact ⟨l, q, e1, by omega, by omega, by simp at e4; omega⟩
theorem backL_length (l : List Pt) : (backL l).length = l.length := by cases l <;> simp [backL]
theorem l92Poly_ok (k : Nat) {b : List Int} {p : Int} (hb : Bts b) (hp : 0 ≤ p ∧ p ≤ 1000) : ∃ l q, spec_l92Poly.f (k + 60) b p = some (l, q) ∧ p ≤ q ∧ q ≤ p + 100 ∧ l.length ≤ 12 := by
  unfold spec_l92Poly.f
  obtain ⟨v1, h1, _, _⟩ := pick_ok (k + 59) hb (p := p) (n := 8) (by omega) (by omega)
  rw [h1]; simp only [Option.bind_some]
  have box : ∃ l q, spec_l92Box.f (k + 60) b (p + 1) = some (l, q) ∧ p + 1 ≤ q ∧ q ≤ p + 1 + 10 ∧ l.length ≤ 12 := l92Box_ok (k + 58) hb (by omega)
  obtain ⟨lb, qb, b1, b2, b3, b4⟩ := box
  by_cases e0 : v1 = 0
  · rw [if_pos e0]
    obtain ⟨v2, h2, _, _⟩ := pick_ok (k + 59) hb (p := p + 1) (n := 6) (by omega) (by omega)
    rw [h2]; simp only [Option.bind_some]
    obtain ⟨l, q, e1, e2, e3, e4⟩ := l92Poly_l0 hb (m := v2) v2.toNat 0 [] (p + 1 + 1) (k + 60) (by omega) (by omega) (by simp) (by omega) (by omega) (by omega) (by omega)
    exact ⟨l, q, e1, by omega, by omega, by simp at e4; omega⟩
  · rw [if_neg e0]
    by_cases e1 : v1 = 1
    · rw [if_pos e1, b1]; exact ⟨_, _, rfl, by omega, by omega, b4⟩
    · rw [if_neg e1]
      by_cases e2 : v1 = 2
      · rw [if_pos e2, b1]; exact ⟨_, _, rfl, by omega, by omega, b4⟩
      · rw [if_neg e2]
        by_cases e3 : v1 = 3
        · rw [if_pos e3, b1]; exact ⟨_, _, rfl, by omega, by omega, b4⟩
        · rw [if_neg e3]
          obtain ⟨l, q, s1, s2, s3, s4⟩ := l92Star_ok (k + 40) hb (p := p + 1) (by omega)
          rw [s1]; simp only [Option.bind_some]
          obtain ⟨v5, h5, _, _⟩ := pick_ok (k + 59) hb (p := q) (n := 5) (by omega) (by omega)
          rw [h5]; simp only [Option.bind_some]
          by_cases e5 : v5 = 0
          · rw [if_pos e5, spec_PolyBack_eq _ l (by omega) (by omega)]
            simp only [Option.bind_some]
            refine ⟨_, _, rfl, by omega, by omega, ?_⟩
            split
            · rw [backL_length]; exact s4
            · simp
          · rw [if_neg e5]; exact ⟨_, _, rfl, by omega, by omega, s4⟩
end Go.Proofs.Ytgdhgncdpmalcaa.Pure
namespace Go.Proofs.Ytgdhgncdpmalcaa.Pure
open Go.RowKit Go.Proofs.Ytgdhgncdpmalcaa.Q Go.Proofs.Ytgdhgncdpmalcaa.Ring Go.Proofs.Ytgdhgncdpmalcaa.Geo Go.Proofs.YtgdhgncdpmalcaaW.PrintWords Go.Proofs.YtgdhgncdpmalcaaW.PrintLast Go.Proofs.YtgdhgncdpmalcaaW.PrintMore
set_option linter.unusedVariables false
theorem DrawPolyConvex_ok (k : Nat) (hk : 100 < k) {bs : List Int} (hbs : ∀ x ∈ bs, (Lit.int .u8 x).wf = true) : ∃ l, spec_DrawPolyConvex.f k bs = some l ∧ l.length ≤ 12 := by
  unfold spec_DrawPolyConvex.f
  obtain ⟨b, e1, hb⟩ := open_ok hbs
  rw [e1]; simp only [Option.bind_some]
  obtain ⟨k, rfl⟩ : ∃ m, k = m + 60 := ⟨k - 60, by omega⟩
  obtain ⟨v, h, _, _⟩ := pick_ok (k + 59) hb (p := 0) (n := 2) (by omega) (by omega)
  rw [h]; simp only [Option.bind_some]
  by_cases c : v = 0
  · rw [if_pos c]
    obtain ⟨l, q, e2, _, _, hl⟩ := l92Box_ok (k + 58) hb (p := 0 + 1) (by omega)
    rw [e2]
    exact ⟨l, rfl, hl⟩
  · rw [if_neg c]
    obtain ⟨l, q, e2, _, _, hl⟩ := l92Poly_ok k hb (p := 0 + 1) (by omega)
    rw [e2]
    exact ⟨l, rfl, hl⟩
theorem half_even {s : Int} (h : Int.tmod s 2 = 0) : 2 * Int.tdiv s 2 = s := by have := Int.mul_tdiv_add_tmod s 2; omega
theorem tdiv_bd {s : Int} (h : -20000 ≤ s ∧ s ≤ 20000) : -10000 ≤ Int.tdiv s 2 ∧ Int.tdiv s 2 ≤ 10000 := by
  have := Int.mul_tdiv_add_tmod s 2
  have b : -2 < Int.tmod s 2 ∧ Int.tmod s 2 < 2 := by
    rcases Int.le_total 0 s with q | q
    · have a1 := Int.tmod_nonneg 2 q
      have a2 := Int.tmod_lt_of_pos s (show (0 : Int) < 2 by omega)
      omega
    · have e : Int.tmod s 2 = -(Int.tmod (-s) 2) := by rw [Int.neg_tmod]; omega
      have a1 := Int.tmod_nonneg 2 (show 0 ≤ -s by omega)
      have a2 := Int.tmod_lt_of_pos (-s) (show (0 : Int) < 2 by omega)
      omega
  omega
theorem idx_k (m n : Nat) (h : 0 < n) : ∃ k : Nat, k < n ∧ (m : Int) % (n : Int) = (k : Int) := ⟨m % n, Nat.mod_lt _ h, by simp⟩
theorem idx_j (m n : Nat) (h : 0 < n) (hm : m ≤ maxLen) : ∃ k : Nat, k < n ∧ Int.tmod (wrap64 ((m : Int) / (n : Int))) (n : Int) = (k : Int) := by
  refine ⟨m / n % n, Nat.mod_lt _ h, ?_⟩
  have e : (m : Int) / (n : Int) = ((m / n : Nat) : Int) := by simp
  have d := Nat.div_le_self m n
  rw [e]
  generalize m / n = q at *
  unfold maxLen at hm
  rw [pw64 (x := (q : Int)) (by omega) (by omega), Int.tmod_eq_emod_of_nonneg (by omega)]
  simp
theorem cxR_yes {l : List Pt} (h : okS l = true) (hc : convR l = true) : impl_PolyConvex.f l = some true := by rw [implConvex_eq]; unfold convexR; rw [h, hc]; rfl
theorem FnPolyConvex : laws_FnPolyConvex.Pure := by
  intro bs ms hms _ hbs hms2 _ _
  obtain ⟨K, hK⟩ : ∃ K : Nat, K = 1000 := ⟨_, rfl⟩
  refine ⟨K + 2, ?_⟩
  have big : laws_FnPolyConvex.j0 (K + 2) bs ms true = some true := by rw [laws_FnPolyConvex.j0, if_pos rfl]
  have go : laws_FnPolyConvex.j0 (K + 2) bs ms false = some true := by
    obtain ⟨l, e1, hl⟩ := DrawPolyConvex_ok (K + 1) (by omega) hbs
    rw [laws_FnPolyConvex.j0, if_neg (by decide), e1]
    simp only [Option.bind_some]
    rw [implConvex_eq, specConvex_eq (by omega) _ (by omega)]
    simp only [Option.bind_some, bne_self_eq_false, Bool.false_eq_true, if_false]
    rw [laws_FnPolyConvex.j1]
    cases hx : convexR l
    · rw [if_pos (show (!false) = true from rfl)]; rfl
    · have h : okS l = true ∧ convR l = true := by unfold convexR at hx; exact Bool.and_eq_true_iff.1 hx
      have hv := (okS_iff.1 h.1).1
      have hc := (cvB_iff.1 hv).1
      rw [if_neg (by decide), if_neg (by omega), impl_PolyBack_eq _ _ (by omega), if_pos hv]
      simp only [Option.bind_some]
      obtain ⟨k, hk1, hk2⟩ := idx_k ms.length l.length (by omega)
      obtain ⟨j, hj1, hj2⟩ := idx_j ms.length l.length (by omega) hms2
      rw [hk2, hj2]
      clear hk2 hj2
      rw [if_pos (by omega), if_pos (by omega), if_pos (by omega), if_pos (by omega)]
      simp only [at_rd]
      rw [← PC_at hk1, ← PC_at hj1]
      have bk := cv_at hv k; have bj := cv_at hv j
      rw [pw64 (x := (PC l k).f0 + (PC l j).f0) (by omega) (by omega), pw64 (x := (PC l k).f1 + (PC l j).f1) (by omega) (by omega)]
      have tx := tdiv_bd (s := (PC l k).f0 + (PC l j).f0) (by omega)
      have ty := tdiv_bd (s := (PC l k).f1 + (PC l j).f1) (by omega)
      rw [pw64 (x := Int.tdiv ((PC l k).f0 + (PC l j).f0) 2) (by omega) (by omega), pw64 (x := Int.tdiv ((PC l k).f1 + (PC l j).f1) 2) (by omega) (by omega)]
      obtain ⟨p, hp⟩ : ∃ p : Pt, p = ⟨Int.tdiv ((PC l k).f0 + (PC l j).f0) 2, Int.tdiv ((PC l k).f1 + (PC l j).f1) 2⟩ := ⟨_, rfl⟩
      have hpx : p.f0 = Int.tdiv ((PC l k).f0 + (PC l j).f0) 2 := by rw [hp]
      have hpy : p.f1 = Int.tdiv ((PC l k).f1 + (PC l j).f1) 2 := by rw [hp]
      have pp : PVP p := PV_iff.2 (by rw [hpx, hpy]; omega)
      have pb : ptB p = true := ptB_iff.2 (by rw [hpx, hpy]; omega)
      have ep : impl_PolyPlace.f l (Int.tdiv ((PC l k).f0 + (PC l j).f0) 2) (Int.tdiv ((PC l k).f1 + (PC l j).f1) 2) = some (placeR l p, true) := by
        unfold impl_PolyPlace.f
        rw [← hp, h.1, pb]; rfl
      rw [ep]
      simp only [Option.bind_some, if_true]
      rw [cxR_yes (okS_back h.1) (conv_back h.1 h.2)]
      simp only [Option.bind_some, if_true]
      rw [begunAt_eq (by omega) (by omega)]
      simp only [Option.bind_some]
      rw [cxR_yes (okS_beg h.1 hk1) (conv_beg h.1 h.2 hk1)]
      simp only [Option.bind_some, if_true]
      by_cases c1 : Int.tmod ((PC l k).f0 + (PC l j).f0) 2 = 0
      · rw [if_pos c1]
        by_cases c2 : Int.tmod ((PC l k).f1 + (PC l j).f1) 2 = 0
        · rw [if_pos c2]
          have := conv_middle h.1 h.2 hk1 hj1 pp (by rw [hpx]; exact half_even c1) (by rw [hpy]; exact half_even c2)
          rw [decide_eq_true (by omega)]
        · rw [if_neg c2]
      · rw [if_neg c1]
  unfold laws_FnPolyConvex.f
  by_cases h1 : (bs.length : Int) > 1048576
  · rw [if_pos h1]; exact big
  · rw [if_neg h1]
    by_cases h2 : (ms.length : Int) > 1048576
    · rw [decide_eq_true h2]; exact big
    · rw [decide_eq_false h2]; exact go
end Go.Proofs.Ytgdhgncdpmalcaa.Pure
