/- Part 6 of what the proof of this law rests on: the functions of the translation as plain Lean functions with their walks, and the plain laws behind. -/
import Derived.Test.YtgdhgncdpmalcaaMFnSplitPlace5
namespace Go.Proofs.Ytgdhgncdpmalcaa.Geo
set_option linter.unusedVariables false
def turn (X Y : Nat → Int) (i : Nat) : Int := cr (X (i + 1) - X i) (Y (i + 1) - Y i) (X (i + 2) - X (i + 1)) (Y (i + 2) - Y (i + 1))
theorem Simple.shift {n : Nat} {X Y : Nat → Int} (h : Simple n X Y) (k : Nat) : Simple n (fun i => X (i + k)) (fun i => Y (i + k)) := by
  refine ⟨h.n3, fun i => by rw [show i + n + k = i + k + n by omega, h.px], fun i => by rw [show i + n + k = i + k + n by omega, h.py], fun i j a b => ?_, fun i => ?_⟩
  · have := h.sep (i + k) (j + k) (by omega) (by omega)
    rw [show i + k + 1 = i + 1 + k by omega, show j + k + 1 = j + 1 + k by omega] at this
    exact this
  · have := h.fwd (i + k)
    rw [show i + k + 1 = i + 1 + k by omega, show i + k + 2 = i + 2 + k by omega] at this
    exact this
/-- The secants to a corner from two corners that follow each other. -/
def back (X Y : Nat → Int) (m i : Nat) : Int := cr (X m - X i) (Y m - Y i) (X m - X (i + 1)) (Y m - Y (i + 1))
theorem turns_step {n : Nat} {X Y : Nat → Int} (h : Simple n X Y) (lo k : Nat) (hk : lo + k + 3 ≤ lo + n) (hn : lo + k + 3 ≤ n + lo) :
    sm lo (k + 1) (back X Y (lo + k + 2)) + cr (X (lo + k + 1) - X lo) (Y (lo + k + 1) - Y lo) (X (lo + k + 2) - X lo) (Y (lo + k + 2) - Y lo) =
    sm lo k (back X Y (lo + k + 1)) + turn X Y (lo + k) := by
  have c := sm_cells (lo := lo) (k := k) (f := back X Y (lo + k + 1)) (g := back X Y (lo + k + 2))
    (h := fun i => cr (X (lo + k + 1) - X i) (Y (lo + k + 1) - Y i) (X (lo + k + 2) - X i) (Y (lo + k + 2) - Y i)) (fun j a b => by
      have := cell (h.sep j (lo + k + 1) (by omega) (by omega))
      unfold back
      simp only [Nat.add_assoc, Nat.reduceAdd] at this ⊢
      omega)
  have t := tri' (h.fwd (lo + k)) (s := X (lo + k + 2) - X (lo + k)) (t := Y (lo + k + 2) - Y (lo + k)) (by omega) (by omega)
  rw [sm]
  unfold turn
  have b : back X Y (lo + k + 2) (lo + k) = cr (X (lo + k + 2) - X (lo + k)) (Y (lo + k + 2) - Y (lo + k)) (X (lo + k + 2) - X (lo + k + 1)) (Y (lo + k + 2) - Y (lo + k + 1)) := rfl
  rw [b]
  omega
theorem turns {n : Nat} {X Y : Nat → Int} (h : Simple n X Y) (k : Nat) (hk : k + 2 ≤ n) : sm 1 k (side X Y (X 0) (Y 0)) + sm 0 k (back X Y (k + 1)) = sm 0 k (turn X Y) := by
  induction k with
  | zero => rfl
  | succ k ih =>
    have e := ih (by omega)
    have s := turns_step h 0 k (by omega) (by omega)
    have e2 : sm 0 (k + 1) (turn X Y) = sm 0 k (turn X Y) + turn X Y (0 + k) := rfl
    rw [sm, e2]
    simp only [Nat.zero_add] at s ⊢
    have b : side X Y (X 0) (Y 0) (1 + k) = cr (X (k + 1) - X 0) (Y (k + 1) - Y 0) (X (k + 2) - X 0) (Y (k + 2) - Y 0) := by rw [Nat.add_comm 1 k]; rfl
    rw [b]
    have a : k + 1 + 1 = k + 2 := rfl
    rw [a]
    omega
theorem cr_high {a b c d : Int} (h1 : ¬ low a b) (h2 : ¬ low c d) : cr a b c d = 0 := by unfold cr; rw [if_neg h1, if_neg h2]
theorem cr_deep {a b c d : Int} (h1 : ¬ low a b) (h2 : ¬ low c d) : cr (-a) (-b) (-c) (-d) = 0 := by
  by_cases z1 : a = 0 ∧ b = 0
  · apply cr_zero; rw [z1.1, z1.2]; unfold cro; simp
  · by_cases z2 : c = 0 ∧ d = 0
    · apply cr_zero; rw [z2.1, z2.2]; unfold cro; simp
    · unfold cr; rw [if_pos ((low_neg z1).2 h1), if_pos ((low_neg z2).2 h2)]
theorem rot_low {n : Nat} {X Y : Nat → Int} (h : Simple n X Y) (hl : ∀ j, ¬ low (X j - X 0) (Y j - Y 0)) : sm 0 n (turn X Y) = 2 * wl n X Y 0 - 1 := by
  have n3 := h.n3
  obtain ⟨m, rfl⟩ : ∃ m, n = m + 3 := ⟨n - 3, by omega⟩
  have pX : ∀ i, X (m + 3 + i) = X i := fun i => by rw [Nat.add_comm]; exact h.px i
  have pY : ∀ i, Y (m + 3 + i) = Y i := fun i => by rw [Nat.add_comm]; exact h.py i
  have e := turns h (m + 1) (by omega)
  have s := turns_step h 1 m (by omega) (by omega)
  have a0 : sm 1 (m + 1) (side X Y (X 0) (Y 0)) = 0 := sm_zero (fun j _ _ => cr_high (hl _) (hl _))
  have b0 : sm 1 (m + 1) (back X Y (1 + m + 2)) = 0 := sm_zero (fun j _ _ => by
    unfold back
    rw [show 1 + m + 2 = m + 3 + 0 by omega, pX, pY]
    rw [show X 0 - X j = -(X j - X 0) by omega, show Y 0 - Y j = -(Y j - Y 0) by omega, show X 0 - X (j + 1) = -(X (j + 1) - X 0) by omega, show Y 0 - Y (j + 1) = -(Y (j + 1) - Y 0) by omega]
    exact cr_deep (hl _) (hl _))
  rw [a0, sm_first] at e
  rw [sm, sm]
  rw [b0] at s
  have fw := h.fwd (m + 2)
  have w := wl_all h (m + 2)
  have b1 : back X Y (m + 1 + 1) 0 = cr (X (m + 2) - X 0) (Y (m + 2) - Y 0) (X (m + 2) - X 1) (Y (m + 2) - Y 1) := rfl
  rw [b1] at e
  have q0 : X (m + 2 + 1) = X 0 := pX 0
  have q1 : Y (m + 2 + 1) = Y 0 := pY 0
  have q2 : X (m + 2 + 2) = X 1 := pX 1
  have q3 : Y (m + 2 + 2) = Y 1 := pY 1
  rw [q0, q1, q2, q3] at fw
  have o : open_ (m + 3) X Y (m + 2 + 1) = 0 := sm_zero (fun j _ _ => by unfold side; rw [q0, q1]; exact cr_high (hl _) (hl _))
  have tn : turn X Y (m + 2) = cr (X 0 - X (m + 2)) (Y 0 - Y (m + 2)) (X 1 - X 0) (Y 1 - Y 0) := by unfold turn; rw [q0, q1, q2, q3]
  have wd : wl (m + 3) X Y (m + 2) = cr (-(X 0 - X (m + 2))) (-(Y 0 - Y (m + 2))) (-(X 1 - X 0)) (-(Y 1 - Y 0)) + 1 - L (X 1 - X 0) (Y 1 - Y 0) := by
    unfold wl; rw [o, q0, q1, q2, q3]; omega
  have t := trin fw (s := X (m + 2) - X 1) (t := Y (m + 2) - Y 1) (by omega) (by omega)
  have cn := cr_neg fw
  have l0 : L (X 1 - X 0) (Y 1 - Y 0) = 0 := by unfold L; rw [if_neg (hl _)]
  have l1 : L (X 0 - X (m + 2)) (Y 0 - Y (m + 2)) = 1 := by
    unfold L; rw [if_pos]
    have ne := h.edge (m + 2)
    rw [q0, q1] at ne
    rw [show X 0 - X (m + 2) = -(X (m + 2) - X 0) by omega, show Y 0 - Y (m + 2) = -(Y (m + 2) - Y 0) by omega]
    exact (low_neg (by omega)).2 (hl _)
  have r1 : -(X 0 - X (m + 2)) = X (m + 2) - X 0 := by omega
  have r2 : -(Y 0 - Y (m + 2)) = Y (m + 2) - Y 0 := by omega
  have r3 : -(X 1 - X 0) = X 0 - X 1 := by omega
  have r4 : -(Y 1 - Y 0) = Y 0 - Y 1 := by omega
  rw [r1, r2, r3, r4] at t wd cn
  simp only [Nat.zero_add] at e s ⊢
  have s1 : 1 + m + 1 = m + 2 := by omega
  have s2 : 1 + m + 2 = m + 3 := by omega
  have s3 : 1 + m = m + 1 := by omega
  have s4 : m + 1 + 1 = m + 2 := rfl
  have q4 : X (m + 3) = X 0 := pX 0
  have q5 : Y (m + 3) = Y 0 := pY 0
  rw [s1, s2, s3, q4, q5] at s
  rw [s4] at e
  rw [tn]
  omega
theorem rot_wl {n : Nat} {X Y : Nat → Int} (h : Simple n X Y) : sm 0 n (turn X Y) = 2 * wl n X Y 0 - 1 := by
  have n3 := h.n3
  obtain ⟨m, hm, hl⟩ := lowest X Y (n - 1)
  have all : ∀ j, ¬ low (X j - X m) (Y j - Y m) := fun j => by
    rw [mod_eq' h.px j, mod_eq' h.py j]
    exact hl _ (by have := Nat.mod_lt j (show 0 < n by omega); omega)
  have e := rot_low (h.shift m) (fun j => by
    rw [show 0 + m = m by omega]; exact all (j + m))
  have w : wl n (fun i => X (i + m)) (fun i => Y (i + m)) 0 = wl n X Y m := by
    unfold wl open_
    simp only [Nat.zero_add, Nat.add_comm 1 m, Nat.add_comm 2 m]
    have : sm (1 + 1) (n - 2) (side (fun i => X (i + m)) (fun i => Y (i + m)) (X (m + 1)) (Y (m + 1))) = sm (m + 1 + 1) (n - 2) (side X Y (X (m + 1)) (Y (m + 1))) := by
      have g : ∀ (k lo : Nat) (f : Nat → Int), sm lo k (fun j => f (j + m)) = sm (m + lo) k f := by
        intro k lo f
        induction k with
        | zero => rfl
        | succ k ih => simp only [sm]; rw [ih, show lo + k + m = m + lo + k by omega]
      rw [show m + 1 + 1 = m + (1 + 1) by omega, ← g]
      refine sm_congr (fun j _ _ => ?_)
      unfold side
      dsimp only
      rw [show j + 1 + m = j + m + 1 by omega]
    rw [this]
  rw [w, wl_all h] at e
  rw [← e]
  have p : ∀ i, turn X Y (i + n) = turn X Y i := fun i => by
    unfold turn
    rw [show i + n + 1 = i + 1 + n by omega, show i + n + 2 = i + 2 + n by omega, h.px, h.py, h.px, h.py, h.px, h.py]
  rw [← sm_period p m, sm_sh]
  refine sm_congr (fun j _ _ => ?_)
  unfold turn
  dsimp only
  rw [show m + j = j + m by omega, show j + m + 1 = j + 1 + m by omega, show j + m + 2 = j + 2 + m by omega]
end Go.Proofs.Ytgdhgncdpmalcaa.Geo
namespace Go.Proofs.Ytgdhgncdpmalcaa.Geo
open Go.Proofs.Ytgdhgncdpmalcaa.Pure
set_option linter.unusedVariables false
theorem c4_part {X Y : Nat → Int} {x y : Int} (lo k : Nat) (h : ∀ j, lo ≤ j → j < lo + k → Fwd (X j - x) (Y j - y) (X (j + 1) - x) (Y (j + 1) - y)) :
    sm lo k (fun j => gS (X j) (Y j) (X (j + 1)) (Y (j + 1)) x y) = 4 * sm lo k (side X Y x y) + Phi (X (lo + k) - x) (Y (lo + k) - y) - Phi (X lo - x) (Y lo - y) := by
  have e : sm lo k (fun j => gS (X j) (Y j) (X (j + 1)) (Y (j + 1)) x y) = sm lo k (fun j => 4 * side X Y x y j + ((fun j => Phi (X j - x) (Y j - y)) (j + 1) - (fun j => Phi (X j - x) (Y j - y)) j)) :=
    sm_congr (fun j a b => by
      unfold gS side
      rw [g4_cr (h j a b)]
      dsimp only
      omega)
  rw [e, sm_add, sm_mul, sm_tele lo k (fun j => Phi (X j - x) (Y j - y))]
  omega
theorem c4_off {n : Nat} {X Y : Nat → Int} (px : ∀ i, X (i + n) = X i) (py : ∀ i, Y (i + n) = Y i) {x y : Int} (ho : Offs n X Y x y) : c4 n X Y x y = 4 * wn n X Y x y := by
  have e := c4_part (X := X) (Y := Y) (x := x) (y := y) 0 n (fun j _ b => ho j (by omega))
  have p0 := px 0; have p1 := py 0
  rw [Nat.zero_add] at p0 p1
  rw [Nat.zero_add, p0, p1] at e
  unfold c4 wn
  omega
theorem gS_per {n : Nat} {X Y : Nat → Int} (px : ∀ i, X (i + n) = X i) (py : ∀ i, Y (i + n) = Y i) (x y : Int) (j : Nat) : gS (X (j + n)) (Y (j + n)) (X (j + n + 1)) (Y (j + n + 1)) x y = gS (X j) (Y j) (X (j + 1)) (Y (j + 1)) x y := by
  rw [show j + n + 1 = j + 1 + n by omega, px, py, px, py]
theorem c4_from {n : Nat} {X Y : Nat → Int} (px : ∀ i, X (i + n) = X i) (py : ∀ i, Y (i + n) = Y i) (x y : Int) (lo : Nat) : c4 n X Y x y = sm lo n (fun j => gS (X j) (Y j) (X (j + 1)) (Y (j + 1)) x y) :=
  (sm_period (gS_per px py x y) lo).symm
theorem gS_zero {ax ay bx b_y x y : Int} (h : cro (ax - x) (ay - y) (bx - x) (b_y - y) = 0) : gS ax ay bx b_y x y = 0 := by unfold gS g4; rw [h, sgn_zero, Int.mul_zero]
/-- At a corner. -/
theorem c4_at {n : Nat} {X Y : Nat → Int} (h : Simple n X Y) (i : Nat) : c4 n X Y (X (i + 1)) (Y (i + 1)) = 4 * open_ n X Y (i + 1) + Phi (-(X (i + 1) - X i)) (-(Y (i + 1) - Y i)) - Phi (X (i + 2) - X (i + 1)) (Y (i + 2) - Y (i + 1)) := by
  have n3 := h.n3
  obtain ⟨m, rfl⟩ : ∃ m, n = m + 3 := ⟨n - 3, by omega⟩
  rw [c4_from h.px h.py _ _ (i + 1), sm_first, sm]
  have z1 : gS (X (i + 1)) (Y (i + 1)) (X (i + 1 + 1)) (Y (i + 1 + 1)) (X (i + 1)) (Y (i + 1)) = 0 := gS_zero (by rw [Int.sub_self, Int.sub_self]; unfold cro; simp)
  have q0 : X (i + 1 + 1 + (m + 1)) = X i := by rw [show i + 1 + 1 + (m + 1) = i + (m + 3) by omega]; exact h.px i
  have q1 : Y (i + 1 + 1 + (m + 1)) = Y i := by rw [show i + 1 + 1 + (m + 1) = i + (m + 3) by omega]; exact h.py i
  have q2 : X (i + 1 + 1 + (m + 1) + 1) = X (i + 1) := by rw [show i + 1 + 1 + (m + 1) + 1 = i + 1 + (m + 3) by omega]; exact h.px _
  have q3 : Y (i + 1 + 1 + (m + 1) + 1) = Y (i + 1) := by rw [show i + 1 + 1 + (m + 1) + 1 = i + 1 + (m + 3) by omega]; exact h.py _
  have z2 : gS (X (i + 1 + 1 + (m + 1))) (Y (i + 1 + 1 + (m + 1))) (X (i + 1 + 1 + (m + 1) + 1)) (Y (i + 1 + 1 + (m + 1) + 1)) (X (i + 1)) (Y (i + 1)) = 0 :=
    gS_zero (by rw [q2, q3, Int.sub_self, Int.sub_self]; unfold cro; simp)
  rw [z1, z2]
  have e := c4_part (X := X) (Y := Y) (x := X (i + 1)) (y := Y (i + 1)) (i + 1 + 1) (m + 1) (fun j a b => by
    by_cases c : j = i + 2
    · subst c
      obtain ⟨g, k, h1, h2⟩ := h.fwd (i + 1)
      simp only [Nat.add_assoc, Nat.reduceAdd] at h1 h2 ⊢
      exact ⟨g, k, h1, by rw [show g * (X (i + 3) - X (i + 1)) + k * (Y (i + 3) - Y (i + 1)) = (g * (X (i + 2) - X (i + 1)) + k * (Y (i + 2) - Y (i + 1))) + (g * (X (i + 3) - X (i + 2)) + k * (Y (i + 3) - Y (i + 2))) by grind]; omega⟩
    · obtain ⟨g, k, h1, h2, _, _⟩ := h.sep (i + 1) j (by omega) (by omega)
      exact ⟨g, k, h1, h2⟩)
  rw [q0, q1] at e
  rw [e]
  have o : open_ (m + 3) X Y (i + 1) = sm (i + 1 + 1) (m + 1) (side X Y (X (i + 1)) (Y (i + 1))) := rfl
  rw [o, show X i - X (i + 1) = -(X (i + 1) - X i) by omega, show Y i - Y (i + 1) = -(Y (i + 1) - Y i) by omega]
  simp only [Nat.add_assoc, Nat.reduceAdd]
  omega
theorem phi_neg {a b : Int} (h : ¬ (a = 0 ∧ b = 0)) : 4 * L a b + Phi (-a) (-b) = 2 + Phi a b := by
  unfold L low Phi
  repeat' split
  all_goals omega
theorem c4_corners {n : Nat} {X Y : Nat → Int} (h : Simple n X Y) : sm 0 n (fun i => c4 n X Y (X i) (Y i)) = (2 * wl n X Y 0 - 1) * (2 * n - 4) := by
  have e1 : sm 0 n (fun i => c4 n X Y (X i) (Y i)) = sm 0 n (fun i => c4 n X Y (X (i + 1)) (Y (i + 1))) := by
    rw [← sm_period (n := n) (f := fun i => c4 n X Y (X i) (Y i)) (fun i => by rw [h.px, h.py]) 1, sm_sh]
    exact sm_congr (fun j _ _ => by rw [Nat.add_comm 1 j])
  have e2 : sm 0 n (fun i => c4 n X Y (X (i + 1)) (Y (i + 1))) = sm 0 n (fun i => (4 * wl n X Y 0 - 2) + (-4 * turn X Y i + -((fun i => Phi (X (i + 1) - X i) (Y (i + 1) - Y i)) (i + 1) - (fun i => Phi (X (i + 1) - X i) (Y (i + 1) - Y i)) i))) :=
    sm_congr (fun i _ _ => by
      rw [c4_at h i]
      have w := wl_all h i
      have c := cr_neg (h.fwd i)
      have p := phi_neg (h.edge i)
      have w2 : wl n X Y i = open_ n X Y (i + 1) + cr (-(X (i + 1) - X i)) (-(Y (i + 1) - Y i)) (-(X (i + 2) - X (i + 1))) (-(Y (i + 2) - Y (i + 1))) + 1 - L (X (i + 2) - X (i + 1)) (Y (i + 2) - Y (i + 1)) := rfl
      unfold turn
      dsimp only
      simp only [Nat.add_assoc, Nat.reduceAdd]
      omega)
  have e3 : sm 0 n (fun i => 4 * wl n X Y 0 - 2) = (4 * wl n X Y 0 - 2) * n := by
    have : ∀ (k : Nat) (c : Int), sm 0 k (fun _ => c) = c * k := by
      intro k c
      induction k with
      | zero => simp [sm]
      | succ k ih => rw [sm, ih, Int.natCast_add, Int.mul_add]; simp
    exact this _ _
  have e4 : X (0 + n) = X 0 ∧ Y (0 + n) = Y 0 ∧ X (0 + n + 1) = X 1 ∧ Y (0 + n + 1) = Y 1 := by
    refine ⟨h.px 0, h.py 0, ?_, ?_⟩
    · rw [show 0 + n + 1 = 1 + n by omega]; exact h.px 1
    · rw [show 0 + n + 1 = 1 + n by omega]; exact h.py 1
  rw [e1, e2, sm_add, sm_add, e3, sm_mul, sm_neg, sm_tele 0 n (fun i => Phi (X (i + 1) - X i) (Y (i + 1) - Y i)), rot_wl h]
  rw [e4.1, e4.2.1, e4.2.2.1, e4.2.2.2, Nat.zero_add]
  grind
theorem phi_same {k m a b a' b' : Int} (hk : 0 < k) (hm : 0 < m) (h1 : k * a' = m * a) (h2 : k * b' = m * b) : Phi a' b' = Phi a b := by
  have s1 := sign_scale (k := k) (x := a') hk; have s2 := sign_scale (k := k) (x := b') hk
  have s3 := sign_scale (k := m) (x := a) hm; have s4 := sign_scale (k := m) (x := b) hm
  rw [h1] at s1; rw [h2] at s2
  unfold Phi
  have p1 : (0 < b') ↔ 0 < b := by rw [← s2.1, s4.1]
  have p2 : (b' < 0) ↔ b < 0 := by rw [← s2.2, s4.2]
  have p3 : (a' < 0) ↔ a < 0 := by rw [← s1.2, s3.2]
  simp only [p1, p2, p3]
/-- Inside a side. -/
theorem c4_in {n : Nat} {X Y : Nat → Int} (h : Simple n X Y) {i : Nat} {al be cx cy : Int} (ha : 0 < al) (hb : 0 < be)
    (hx : (al + be) * cx = al * X (i + 1) + be * X (i + 2)) (hy : (al + be) * cy = al * Y (i + 1) + be * Y (i + 2)) : c4 n X Y cx cy = 2 * (2 * wl n X Y 0 - 1) := by
  have n3 := h.n3
  have r := rest_eq h ha hb hx hy
  rw [wl_all h] at r
  obtain ⟨m, rfl⟩ : ∃ m, n = m + 3 := ⟨n - 3, by omega⟩
  rw [c4_from h.px h.py _ _ (i + 1), sm_first]
  have z1 : gS (X (i + 1)) (Y (i + 1)) (X (i + 1 + 1)) (Y (i + 1 + 1)) cx cy = 0 := gS_zero (by
    unfold cro
    have : (al + be) * ((X (i + 1) - cx) * (Y (i + 2) - cy) - (Y (i + 1) - cy) * (X (i + 2) - cx)) = 0 := by grind
    rcases Int.mul_eq_zero.1 this with q | q
    · omega
    · exact q)
  rw [z1]
  have e := c4_part (X := X) (Y := Y) (x := cx) (y := cy) (i + 1 + 1) (m + 2) (fun j a b => by
    by_cases c : j = i + 2
    · subst c
      obtain ⟨g, k, h1, h2⟩ := h.fwd (i + 1)
      simp only [Nat.add_assoc, Nat.reduceAdd] at h1 h2 ⊢
      have s1 : g * (X (i + 3) - X (i + 1)) + k * (Y (i + 3) - Y (i + 1)) = (g * (X (i + 2) - X (i + 1)) + k * (Y (i + 2) - Y (i + 1))) + (g * (X (i + 3) - X (i + 2)) + k * (Y (i + 3) - Y (i + 2))) := by grind
      exact ⟨g, k, mid_pos ha hb hx hy h1 (by simp), mid_pos ha hb hx hy (by omega) (by omega)⟩
    · by_cases d : j = i + (m + 3)
      · subst d
        obtain ⟨g, k, h1, h2⟩ := (h.fwd i).neg
        rw [show i + (m + 3) + 1 = i + 1 + (m + 3) by omega, h.px, h.py, h.px, h.py]
        have hx' : (be + al) * cx = be * X (i + 2) + al * X (i + 1) := by rw [Int.add_comm be al, hx]; omega
        have hy' : (be + al) * cy = be * Y (i + 2) + al * Y (i + 1) := by rw [Int.add_comm be al, hy]; omega
        have s1 : g * (X i - X (i + 2)) + k * (Y i - Y (i + 2)) = (g * -(X (i + 1) - X i) + k * -(Y (i + 1) - Y i)) + (g * -(X (i + 2) - X (i + 1)) + k * -(Y (i + 2) - Y (i + 1))) := by grind
        have s2 : g * (X i - X (i + 1)) + k * (Y i - Y (i + 1)) = g * -(X (i + 1) - X i) + k * -(Y (i + 1) - Y i) := by grind
        have s3 : g * (X (i + 1) - X (i + 2)) + k * (Y (i + 1) - Y (i + 2)) = g * -(X (i + 2) - X (i + 1)) + k * -(Y (i + 2) - Y (i + 1)) := by grind
        exact ⟨g, k, mid_pos hb ha hx' hy' (by omega) (by omega), mid_pos hb ha hx' hy' (by omega) (by simp)⟩
      · obtain ⟨g, k, h1, h2, h3, h4⟩ := h.sep (i + 1) j (by omega) (by omega)
        exact ⟨g, k, mid_pos ha hb hx hy h1 (Int.le_of_lt h3), mid_pos ha hb hx hy h2 (Int.le_of_lt h4)⟩)
  have q0 : X (i + 1 + 1 + (m + 2)) = X (i + 1) := by rw [show i + 1 + 1 + (m + 2) = i + 1 + (m + 3) by omega]; exact h.px _
  have q1 : Y (i + 1 + 1 + (m + 2)) = Y (i + 1) := by rw [show i + 1 + 1 + (m + 2) = i + 1 + (m + 3) by omega]; exact h.py _
  rw [q0, q1] at e
  have rd : rest (m + 3) X Y i cx cy = sm (i + 1 + 1) (m + 2) (side X Y cx cy) := rfl
  rw [← rd] at e
  have p1 : Phi (X (i + 1) - cx) (Y (i + 1) - cy) = Phi (-(X (i + 2) - X (i + 1))) (-(Y (i + 2) - Y (i + 1))) := phi_same (k := al + be) (m := be) (by omega) hb (by grind) (by grind)
  have p2 : Phi (X (i + 1 + 1) - cx) (Y (i + 1 + 1) - cy) = Phi (X (i + 2) - X (i + 1)) (Y (i + 2) - Y (i + 1)) := phi_same (k := al + be) (m := al) (by omega) ha (by grind) (by grind)
  rw [p1, p2] at e
  have p := phi_neg (h.edge (i + 1))
  simp only [Nat.add_assoc, Nat.reduceAdd] at p e ⊢
  rw [e]
  omega
end Go.Proofs.Ytgdhgncdpmalcaa.Geo
namespace Go.Proofs.Ytgdhgncdpmalcaa.Geo
open Go.Proofs.Ytgdhgncdpmalcaa.Pure
set_option linter.unusedVariables false
open Classical in
/-- 1 for a point on a side. -/
noncomputable def onI (n : Nat) (X Y : Nat → Int) (x y : Int) : Int := if ∃ j, j < n ∧ onP (X j) (Y j) (X (j + 1)) (Y (j + 1)) x y then 1 else 0
open Classical in
/-- 1 for a point inside. -/
noncomputable def inI (n : Nat) (X Y : Nat → Int) (x y : Int) : Int := if (∃ j, j < n ∧ onP (X j) (Y j) (X (j + 1)) (Y (j + 1)) x y) ∨ wn n X Y x y = 0 then 0 else 1
/-- A point on a segment divides it. -/
theorem on_div {ax ay bx b_y x y : Int} (h : ¬ (bx = ax ∧ b_y = ay)) (ho : onP ax ay bx b_y x y) :
    ∃ al be : Int, 0 ≤ al ∧ 0 ≤ be ∧ 0 < al + be ∧ (al + be) * x = al * ax + be * bx ∧ (al + be) * y = al * ay + be * b_y := by
  have hD := norm_pos (p := bx - ax) (q := b_y - ay) (by omega)
  obtain ⟨c, h1, h2, h3, h4⟩ := ho
  unfold crs at c
  have pr : ∀ {p r : Int}, min 0 p ≤ r → r ≤ max 0 p → 0 ≤ p * r ∧ p * r ≤ p * p := by
    intro p r a b
    rcases Int.le_total 0 p with q | q
    · have m1 := Int.mul_nonneg q (show 0 ≤ r by omega)
      have m2 := Int.mul_le_mul_of_nonneg_left (show r ≤ p by omega) q
      exact ⟨m1, m2⟩
    · have m1 := Int.mul_nonneg (show 0 ≤ -p by omega) (show 0 ≤ -r by omega)
      have m2 := Int.mul_le_mul_of_nonneg_left (show -r ≤ -p by omega) (show 0 ≤ -p by omega)
      rw [Int.neg_mul_neg] at m1; rw [Int.neg_mul_neg, Int.neg_mul_neg] at m2
      exact ⟨m1, m2⟩
  have p1 := pr (p := bx - ax) (r := x - ax) (by omega) (by omega)
  have p2 := pr (p := b_y - ay) (r := y - ay) (by omega) (by omega)
  refine ⟨((bx - ax) * (bx - ax) + (b_y - ay) * (b_y - ay)) - ((bx - ax) * (x - ax) + (b_y - ay) * (y - ay)), (bx - ax) * (x - ax) + (b_y - ay) * (y - ay), by omega, by omega, by omega, ?_, ?_⟩
  · have : (b_y - ay) * ((bx - ax) * (y - ay) - (b_y - ay) * (x - ax)) = 0 := by rw [c]; simp
    grind
  · have : (bx - ax) * ((bx - ax) * (y - ay) - (b_y - ay) * (x - ax)) = 0 := by rw [c]; simp
    grind
theorem sep_on {ax ay bx b_y cx cy dx dy x y : Int} (h : Sep ax ay bx b_y cx cy dx dy) (n1 : ¬ (bx = ax ∧ b_y = ay)) (n2 : ¬ (dx = cx ∧ dy = cy)) (o1 : onP ax ay bx b_y x y) (o2 : onP cx cy dx dy x y) : False := by
  obtain ⟨g, k, h1, h2, h3, h4⟩ := h
  obtain ⟨al, be, a0, a1, a2, a3, a4⟩ := on_div n1 o1
  obtain ⟨ga, de, b0, b1, b2, b3, b4⟩ := on_div n2 o2
  have s : al * ga * (g * (cx - ax) + k * (cy - ay)) + al * de * (g * (dx - ax) + k * (dy - ay)) + be * ga * (g * (cx - bx) + k * (cy - b_y)) + be * de * (g * (dx - bx) + k * (dy - b_y)) =
    g * ((al + be) * (ga * cx + de * dx) - (ga + de) * (al * ax + be * bx)) + k * ((al + be) * (ga * cy + de * dy) - (ga + de) * (al * ay + be * b_y)) := by grind
  rw [← a3, ← a4, ← b3, ← b4, show (al + be) * ((ga + de) * x) - (ga + de) * ((al + be) * x) = 0 by grind, show (al + be) * ((ga + de) * y) - (ga + de) * ((al + be) * y) = 0 by grind] at s
  have m1 := Int.mul_nonneg (Int.mul_nonneg a0 b0) (Int.le_of_lt h1)
  have m2 := Int.mul_nonneg (Int.mul_nonneg a0 b1) (Int.le_of_lt h2)
  have m3 := Int.mul_nonneg (Int.mul_nonneg a1 b0) (Int.le_of_lt h3)
  have m4 := Int.mul_nonneg (Int.mul_nonneg a1 b1) (Int.le_of_lt h4)
  have st : ∀ {u v w : Int}, 0 ≤ u → 0 ≤ v → 0 < w → u * v * w = 0 → u = 0 ∨ v = 0 := by
    intro u v w hu hv hw e
    rcases Int.mul_eq_zero.1 e with q | q
    · exact Int.mul_eq_zero.1 q
    · omega
  simp at s
  have z1 := st a0 b0 h1 (by omega)
  have z2 := st a0 b1 h2 (by omega)
  have z3 := st a1 b0 h3 (by omega)
  have z4 := st a1 b1 h4 (by omega)
  omega
/-- A point on two sides that follow each other is their corner. -/
theorem fwd_on {ax ay bx b_y cx cy x y : Int} (h : Fwd (bx - ax) (b_y - ay) (cx - bx) (cy - b_y)) (n1 : ¬ (bx = ax ∧ b_y = ay)) (n2 : ¬ (cx = bx ∧ cy = b_y)) (o1 : onP ax ay bx b_y x y) (o2 : onP bx b_y cx cy x y) : x = bx ∧ y = b_y := by
  obtain ⟨g, k, h1, h2⟩ := h
  obtain ⟨al, be, a0, a1, a2, a3, a4⟩ := on_div n1 o1
  obtain ⟨ga, de, b0, b1, b2, b3, b4⟩ := on_div n2 o2
  have e1 : (al + be) * (x - bx) = -(al * (bx - ax)) := by grind
  have e2 : (al + be) * (y - b_y) = -(al * (b_y - ay)) := by grind
  have e3 : (ga + de) * (x - bx) = de * (cx - bx) := by grind
  have e4 : (ga + de) * (y - b_y) = de * (cy - b_y) := by grind
  have s : (ga + de) * (al * (g * (bx - ax) + k * (b_y - ay))) + (al + be) * (de * (g * (cx - bx) + k * (cy - b_y))) = 0 := by
    have : (ga + de) * (al * (g * (bx - ax) + k * (b_y - ay))) + (al + be) * (de * (g * (cx - bx) + k * (cy - b_y))) =
      g * ((ga + de) * (al * (bx - ax)) + (al + be) * (de * (cx - bx))) + k * ((ga + de) * (al * (b_y - ay)) + (al + be) * (de * (cy - b_y))) := by grind
    rw [this, ← e3, ← e4, show al * (bx - ax) = -((al + be) * (x - bx)) by omega, show al * (b_y - ay) = -((al + be) * (y - b_y)) by omega]
    grind
  have m1 := Int.mul_nonneg (Int.le_of_lt b2) (Int.mul_nonneg a0 (Int.le_of_lt h1))
  have m2 := Int.mul_nonneg (Int.le_of_lt a2) (Int.mul_nonneg b1 (Int.le_of_lt h2))
  have z : (al + be) * (de * (g * (cx - bx) + k * (cy - b_y))) = 0 := by omega
  have dz : de = 0 := by
    rcases Int.mul_eq_zero.1 z with q | q
    · omega
    · rcases Int.mul_eq_zero.1 q with r | r <;> omega
  rw [dz, Int.zero_mul] at e3 e4
  constructor
  · rcases Int.mul_eq_zero.1 e3 with q | q <;> omega
  · rcases Int.mul_eq_zero.1 e4 with q | q <;> omega
/-! sums over the lattice -/
theorem lat_add (M : Nat) (F G : Int → Int → Int) : lat M (fun x y => F x y + G x y) = lat M F + lat M G := by
  unfold lat; rw [← sm_add]; exact sm_congr (fun i _ _ => sm_add _ _ _ _)
theorem lat_mul (M : Nat) (c : Int) (F : Int → Int → Int) : lat M (fun x y => c * F x y) = c * lat M F := by
  unfold lat; rw [← sm_mul]; exact sm_congr (fun i _ _ => sm_mul _ _ _ _)
theorem lat_congr {M : Nat} {F G : Int → Int → Int} (h : ∀ x y, -(M : Int) ≤ x → x ≤ M → -(M : Int) ≤ y → y ≤ M → F x y = G x y) : lat M F = lat M G :=
  sm_congr (fun i _ _ => sm_congr (fun j _ _ => h _ _ (by omega) (by omega) (by omega) (by omega)))
theorem lat_sm (M n : Nat) (F : Nat → Int → Int → Int) : lat M (fun x y => sm 0 n (fun j => F j x y)) = sm 0 n (fun j => lat M (F j)) := by
  unfold lat
  rw [← sm_swp (2 * M + 1) n 0 0 (fun i j => sm 0 (2 * M + 1) (fun t => F j (-M + t) (-M + i)))]
  exact sm_congr (fun i _ _ => sm_swp _ _ _ _ _)
theorem sm_delta (N p : Nat) (c : Int) : sm 0 N (fun j => if j = p then c else 0) = if p < N then c else 0 := by
  induction N with
  | zero => rw [if_neg (by omega)]; rfl
  | succ N ih =>
    rw [sm, ih, Nat.zero_add]
    by_cases e : N = p
    · rw [if_pos e, if_neg (by omega), if_pos (by omega)]; omega
    · rw [if_neg e]
      by_cases q : p < N
      · rw [if_pos q, if_pos (by omega)]; omega
      · rw [if_neg q, if_neg (by omega)]; rfl
def del (a b c x y : Int) : Int := if x = a ∧ y = b then c else 0
theorem lat_del {M : Nat} {a b c : Int} (ha : -(M : Int) ≤ a ∧ a ≤ M) (hb : -(M : Int) ≤ b ∧ b ≤ M) : lat M (del a b c) = c := by
  obtain ⟨p, hp⟩ : ∃ p : Nat, (p : Int) = a + M := ⟨(a + M).toNat, by omega⟩
  obtain ⟨q, hq⟩ : ∃ q : Nat, (q : Int) = b + M := ⟨(b + M).toNat, by omega⟩
  have r : ∀ i : Nat, sm 0 (2 * M + 1) (fun j => del a b c (-M + j) (-M + i)) = if i = q then c else 0 := fun i => by
    by_cases e : i = q
    · rw [if_pos e]
      have : sm 0 (2 * M + 1) (fun j => del a b c (-M + j) (-M + i)) = sm 0 (2 * M + 1) (fun j => if j = p then c else 0) := sm_congr (fun j _ _ => by
        unfold del
        by_cases e2 : j = p
        · rw [if_pos e2, if_pos (by omega)]
        · rw [if_neg e2, if_neg (by omega)])
      rw [this, sm_delta, if_pos (by omega)]
    · rw [if_neg e]
      exact sm_zero (fun j _ _ => by unfold del; rw [if_neg (by omega)])
  unfold lat
  rw [sm_congr (fun i _ _ => r i), sm_delta, if_pos (by omega)]
/-! Pick's law -/
theorem offs_not {n : Nat} {X Y : Nat → Int} (h : Simple n X Y) {x y : Int} (ho : ¬ ∃ j, j < n ∧ onP (X j) (Y j) (X (j + 1)) (Y (j + 1)) x y) : Offs n X Y x y :=
  offs_of (fun j => by have := h.edge j; omega) (fun j hj c => ho ⟨j, hj, c⟩)
theorem onP_end {a b c d : Int} : onP a b c d c d := by unfold onP crs; refine ⟨by grind, ?_⟩; omega
theorem onP_beg {a b c d : Int} : onP a b c d a b := by unfold onP crs; refine ⟨by grind, ?_⟩; omega
theorem c4_point {n : Nat} {X Y : Nat → Int} (h : Simple n X Y) (hd : ∀ i j, i < n → j < n → X i = X j → Y i = Y j → i = j) (x y : Int) :
    c4 n X Y x y = (2 * wl n X Y 0 - 1) * (4 * inI n X Y x y + 2 * onI n X Y x y) + sm 0 n (fun j => del (X j) (Y j) (c4 n X Y (X j) (Y j) - 2 * (2 * wl n X Y 0 - 1)) x y) := by
  have n3 := h.n3
  by_cases ho : ∃ j, j < n ∧ onP (X j) (Y j) (X (j + 1)) (Y (j + 1)) x y
  · have i0 : inI n X Y x y = 0 := by unfold inI; rw [if_pos (.inl ho)]
    have o1 : onI n X Y x y = 1 := by unfold onI; rw [if_pos ho]
    rw [i0, o1]
    by_cases hv : ∃ j, j < n ∧ x = X j ∧ y = Y j
    · obtain ⟨j, hj, rfl, rfl⟩ := hv
      have e : sm 0 n (fun k => del (X k) (Y k) (c4 n X Y (X k) (Y k) - 2 * (2 * wl n X Y 0 - 1)) (X j) (Y j)) = sm 0 n (fun k => if k = j then c4 n X Y (X j) (Y j) - 2 * (2 * wl n X Y 0 - 1) else 0) :=
        sm_congr (fun k _ hk => by
          unfold del
          by_cases q : k = j
          · subst q; rw [if_pos ⟨rfl, rfl⟩, if_pos rfl]
          · rw [if_neg (fun c => q (hd j k hj (by omega) c.1 c.2).symm), if_neg q])
      rw [e, sm_delta, if_pos hj]
      omega
    · have e : sm 0 n (fun k => del (X k) (Y k) (c4 n X Y (X k) (Y k) - 2 * (2 * wl n X Y 0 - 1)) x y) = 0 := sm_zero (fun k _ hk => by
        unfold del; rw [if_neg (fun c => hv ⟨k, by omega, c⟩)])
      rw [e]
      obtain ⟨j, hj, o⟩ := ho
      have ed := h.edge j
      obtain ⟨al, be, a0, a1, a2, a3, a4⟩ := on_div (by omega) o
      have i1 : j + (n - 1) + 1 = j + n := by omega
      have i2 : j + (n - 1) + 2 = j + 1 + n := by omega
      have can : ∀ {k u v : Int}, 0 < k → k * u = k * v → u = v := fun {k u v} hk e => Int.eq_of_mul_eq_mul_left (by omega) e
      have pa : 0 < al := by
        apply Classical.byContradiction; intro c
        obtain rfl : al = 0 := by omega
        simp only [Int.zero_add, Int.zero_mul] at a2 a3 a4
        have e1 := can a2 a3; have e2 := can a2 a4
        by_cases q : j + 1 < n
        · exact hv ⟨j + 1, q, e1, e2⟩
        · have p0 := h.px 0; have p1 := h.py 0
          rw [Nat.zero_add] at p0 p1
          rw [show j + 1 = n by omega, p0] at e1
          rw [show j + 1 = n by omega, p1] at e2
          exact hv ⟨0, by omega, e1, e2⟩
      have pb : 0 < be := by
        apply Classical.byContradiction; intro c
        obtain rfl : be = 0 := by omega
        simp only [Int.add_zero, Int.zero_mul] at a2 a3 a4
        exact hv ⟨j, hj, can a2 a3, can a2 a4⟩
      have := c4_in h (i := j + (n - 1)) (al := al) (be := be) (cx := x) (cy := y) pa pb (by rw [i1, i2, h.px, h.px]; exact a3) (by rw [i1, i2, h.py, h.py]; exact a4)
      rw [this]; omega
  · have off := offs_not h ho
    have e : sm 0 n (fun k => del (X k) (Y k) (c4 n X Y (X k) (Y k) - 2 * (2 * wl n X Y 0 - 1)) x y) = 0 := sm_zero (fun k _ hk => by
      unfold del; rw [if_neg (fun c => ho ⟨k, by omega, by rw [c.1, c.2]; exact onP_beg⟩)])
    have o1 : onI n X Y x y = 0 := by unfold onI; rw [if_neg ho]
    rw [e, o1, c4_off h.px h.py off]
    unfold inI
    have w1 := wn_off h off
    have w2 := wl_01 h
    by_cases z : wn n X Y x y = 0
    · rw [if_pos (.inr z), z]; simp
    · rw [if_neg (fun c => c.elim ho z)]
      rcases w2 with w2 | w2 <;> rw [w2] at w1 ⊢ <;> omega
theorem pick {n : Nat} {X Y : Nat → Int} (h : Simple n X Y) (hd : ∀ i j, i < n → j < n → X i = X j → Y i = Y j → i = j) {B : Int} {M : Nat} (hB : 0 ≤ B) (hX : ∀ i, -B ≤ X i ∧ X i ≤ B) (hY : ∀ i, -B ≤ Y i ∧ Y i ≤ B) (hM : 4 * B ≤ M) :
    areaI n X Y = (2 * wl n X Y 0 - 1) * (2 * lat M (inI n X Y) + lat M (onI n X Y) - 2) := by
  have p0 := h.px 0; have p1 := h.py 0
  rw [Nat.zero_add] at p0 p1
  have e := lat_area (n := n) p0 p1 hX hY hM
  have e2 : lat M (c4 n X Y) = lat M (fun x y => (2 * wl n X Y 0 - 1) * (4 * inI n X Y x y + 2 * onI n X Y x y) + sm 0 n (fun j => del (X j) (Y j) (c4 n X Y (X j) (Y j) - 2 * (2 * wl n X Y 0 - 1)) x y)) :=
    lat_congr (fun x y _ _ _ _ => c4_point h hd x y)
  rw [e2, lat_add, lat_mul, lat_add, lat_mul, lat_mul, lat_sm] at e
  have e3 : sm 0 n (fun j => lat M (del (X j) (Y j) (c4 n X Y (X j) (Y j) - 2 * (2 * wl n X Y 0 - 1)))) = sm 0 n (fun j => c4 n X Y (X j) (Y j) - 2 * (2 * wl n X Y 0 - 1)) :=
    sm_congr (fun j _ _ => lat_del (by have := hX j; omega) (by have := hY j; omega))
  have e4 : sm 0 n (fun _ => 2 * (2 * wl n X Y 0 - 1)) = 2 * (2 * wl n X Y 0 - 1) * n := by
    have : ∀ (k : Nat) (c : Int), sm 0 k (fun _ => c) = c * k := by
      intro k c
      induction k with
      | zero => simp [sm]
      | succ k ih => rw [sm, ih, Int.natCast_add, Int.mul_add]; simp
    exact this _ _
  rw [e3, sm_sub, c4_corners h, e4] at e
  generalize 2 * wl n X Y 0 - 1 = w at e ⊢
  generalize lat M (inI n X Y) = I at e ⊢
  generalize lat M (onI n X Y) = O at e ⊢
  grind
end Go.Proofs.Ytgdhgncdpmalcaa.Geo
namespace Go.Proofs.Ytgdhgncdpmalcaa.Geo
open Go.Proofs.Ytgdhgncdpmalcaa.Pure
set_option linter.unusedVariables false
theorem between_t {u t g : Int} (hu : u ≠ 0) (h : min 0 (g * u) ≤ u * t ∧ u * t ≤ max 0 (g * u)) (hg : 0 < g) : 0 ≤ t ∧ t ≤ g := by
  rcases Int.lt_or_gt_of_ne hu with q | q
  · have m := Int.mul_pos hg (show 0 < -u by omega)
    rw [Int.mul_neg] at m
    constructor
    · apply Classical.byContradiction; intro c
      have := Int.mul_pos (show 0 < -u by omega) (show 0 < -t by omega); rw [Int.neg_mul_neg] at this; omega
    · apply Classical.byContradiction; intro c
      have := Int.mul_pos (show 0 < -u by omega) (show 0 < t - g by omega)
      have e : -u * (t - g) = g * u - u * t := by grind
      omega
  · have m := Int.mul_pos hg q
    constructor
    · apply Classical.byContradiction; intro c
      have := Int.mul_pos q (show 0 < -t by omega); rw [Int.mul_neg] at this; omega
    · apply Classical.byContradiction; intro c
      have := Int.mul_pos q (show 0 < t - g by omega)
      have e : u * (t - g) = u * t - g * u := by grind
      omega
theorem par_t {u v r s : Int} (hg : Int.gcd u v = 1) (h : u * s = v * r) : ∃ t, r = u * t ∧ s = v * t := by
  have hc : Nat.Coprime u.natAbs v.natAbs := hg
  by_cases hu : u = 0
  · subst hu
    rw [Int.zero_mul] at h
    rw [Int.gcd_zero_left] at hg
    have hv : v * v = 1 := by
      rcases show v = 1 ∨ v = -1 by omega with q | q <;> subst q <;> rfl
    have hr : r = 0 := by
      rcases Int.mul_eq_zero.1 h.symm with q | q
      · subst q; omega
      · exact q
    exact ⟨s * v, by rw [hr]; simp, by rw [Int.mul_comm s v, ← Int.mul_assoc, hv, Int.one_mul]⟩
  · have d : u.natAbs ∣ v.natAbs * r.natAbs := by rw [← Int.natAbs_mul, ← h, Int.natAbs_mul]; exact ⟨_, rfl⟩
    have d2 := hc.dvd_of_dvd_mul_left d
    obtain ⟨t, rfl⟩ := Int.natAbs_dvd_natAbs.1 d2
    refine ⟨t, rfl, ?_⟩
    have : u * s = u * (v * t) := by rw [h]; grind
    exact Int.eq_of_mul_eq_mul_left hu this
open Classical in
/-- 1 for a point on a side, but for its end. -/
noncomputable def cntI (ax ay bx b_y x y : Int) : Int := if onP ax ay bx b_y x y ∧ ¬ (x = bx ∧ y = b_y) then 1 else 0
theorem cnt_del {ax ay u v : Int} {g : Nat} (hg : 0 < g) (h1 : Int.gcd u v = 1) (x y : Int) :
    cntI ax ay (ax + g * u) (ay + g * v) x y = sm 0 g (fun t => del (ax + u * t) (ay + v * t) 1 x y) := by
  have nz : u ≠ 0 ∨ v ≠ 0 := by
    by_cases q : u = 0
    · right; intro e; subst q; subst e; simp at h1
    · exact .inl q
  unfold cntI
  by_cases c : onP ax ay (ax + g * u) (ay + g * v) x y ∧ ¬ (x = ax + g * u ∧ y = ay + g * v)
  · rw [if_pos c]
    obtain ⟨⟨c0, c1, c2, c3, c4⟩, ce⟩ := c
    unfold crs at c0
    have e : u * (y - ay) = v * (x - ax) := by
      have : (g : Int) * (u * (y - ay) - v * (x - ax)) = 0 := by
        have e1 : (g : Int) * (u * (y - ay) - v * (x - ax)) = (ax + g * u - ax) * (y - ay) - (ay + g * v - ay) * (x - ax) := by grind
        rw [e1]; exact c0
      rcases Int.mul_eq_zero.1 this with q | q <;> omega
    obtain ⟨t, t1, t2⟩ := par_t h1 e
    have bt : 0 ≤ t ∧ t ≤ g := by
      rcases nz with q | q
      · exact between_t (g := (g : Int)) q (by rw [← t1]; omega) (by omega)
      · exact between_t (g := (g : Int)) q (by rw [← t2]; omega) (by omega)
    have tg : t ≠ g := fun q => ce ⟨by rw [q, Int.mul_comm] at t1; omega, by rw [q, Int.mul_comm] at t2; omega⟩
    obtain ⟨m, rfl⟩ : ∃ m : Nat, t = m := ⟨t.toNat, by omega⟩
    have : sm 0 g (fun k => del (ax + u * k) (ay + v * k) 1 x y) = sm 0 g (fun k => if k = m then 1 else 0) := sm_congr (fun k _ _ => by
      unfold del
      by_cases q : k = m
      · subst q; rw [if_pos ⟨by omega, by omega⟩, if_pos rfl]
      · rw [if_neg q, if_neg]
        rintro ⟨e1, e2⟩
        rcases nz with z | z
        · have := Int.eq_of_mul_eq_mul_left z (show u * (k : Int) = u * (m : Int) by omega); omega
        · have := Int.eq_of_mul_eq_mul_left z (show v * (k : Int) = v * (m : Int) by omega); omega)
    rw [this, sm_delta, if_pos (by omega)]
  · rw [if_neg c]
    symm
    refine sm_zero (fun k _ hk => ?_)
    unfold del
    rw [if_neg]
    rintro ⟨rfl, rfl⟩
    apply c
    have bd : ∀ w : Int, min 0 (g * w) ≤ w * k ∧ w * k ≤ max 0 (g * w) := by
      intro w
      rcases Int.le_total 0 w with q | q
      · have m1 := Int.mul_nonneg q (show 0 ≤ (k : Int) by omega)
        have m2 := Int.mul_le_mul_of_nonneg_left (show (k : Int) ≤ g by omega) q
        rw [Int.mul_comm w g] at m2; omega
      · have m1 := Int.mul_nonneg (show 0 ≤ -w by omega) (show 0 ≤ (k : Int) by omega)
        have m2 := Int.mul_le_mul_of_nonneg_left (show (k : Int) ≤ g by omega) (show 0 ≤ -w by omega)
        rw [Int.neg_mul] at m1; rw [Int.neg_mul, Int.neg_mul, Int.mul_comm w g] at m2; omega
    have b1 := bd u; have b2 := bd v
    refine ⟨?_, ?_⟩
    · unfold onP crs
      refine ⟨by grind, ?_⟩
      omega
    · rintro ⟨e1, e2⟩
      rcases nz with z | z
      · have := Int.eq_of_mul_eq_mul_left z (show u * (k : Int) = u * (g : Int) by rw [Int.mul_comm u g]; omega); omega
      · have := Int.eq_of_mul_eq_mul_left z (show v * (k : Int) = v * (g : Int) by rw [Int.mul_comm v g]; omega); omega
theorem lat_cnt {ax ay bx b_y : Int} {M : Nat} (ne : ¬ (bx = ax ∧ b_y = ay)) (ha : -(M : Int) ≤ ax ∧ ax ≤ M) (hb : -(M : Int) ≤ bx ∧ bx ≤ M) (ha' : -(M : Int) ≤ ay ∧ ay ≤ M) (hb' : -(M : Int) ≤ b_y ∧ b_y ≤ M) :
    lat M (cntI ax ay bx b_y) = (Int.gcd (bx - ax) (b_y - ay) : Int) := by
  have hg : 0 < Int.gcd (bx - ax) (b_y - ay) := Int.gcd_pos_iff.2 (by omega)
  obtain ⟨u, hu⟩ := Int.gcd_dvd_left (bx - ax) (b_y - ay)
  obtain ⟨v, hv⟩ := Int.gcd_dvd_right (bx - ax) (b_y - ay)
  generalize hG : Int.gcd (bx - ax) (b_y - ay) = g at *
  have h1 : Int.gcd u v = 1 := by
    rw [hu, hv, Int.gcd_mul_left, Int.natAbs_natCast] at hG
    exact Nat.eq_of_mul_eq_mul_left hg (by omega)
  obtain rfl : bx = ax + g * u := by omega
  obtain rfl : b_y = ay + g * v := by omega
  have e : lat M (cntI ax ay (ax + g * u) (ay + g * v)) = lat M (fun x y => sm 0 g (fun t => del (ax + u * t) (ay + v * t) 1 x y)) := lat_congr (fun x y _ _ _ _ => cnt_del hg h1 x y)
  rw [e, lat_sm]
  have bd : ∀ (w : Int) (k : Nat), k < g → min 0 (g * w) ≤ w * k ∧ w * k ≤ max 0 (g * w) := by
    intro w k hk
    rcases Int.le_total 0 w with q | q
    · have m1 := Int.mul_nonneg q (show 0 ≤ (k : Int) by omega)
      have m2 := Int.mul_le_mul_of_nonneg_left (show (k : Int) ≤ g by omega) q
      rw [Int.mul_comm w g] at m2; omega
    · have m1 := Int.mul_nonneg (show 0 ≤ -w by omega) (show 0 ≤ (k : Int) by omega)
      have m2 := Int.mul_le_mul_of_nonneg_left (show (k : Int) ≤ g by omega) (show 0 ≤ -w by omega)
      rw [Int.neg_mul] at m1; rw [Int.neg_mul, Int.neg_mul, Int.mul_comm w g] at m2; omega
  have : sm 0 g (fun t => lat M (del (ax + u * t) (ay + v * t) 1)) = sm 0 g (fun t => 1) := sm_congr (fun t _ ht => lat_del (by have := bd u t (by omega); omega) (by have := bd v t (by omega); omega))
  rw [this]
  have : ∀ k, sm 0 k (fun _ => (1 : Int)) = k := by
    intro k
    induction k with
    | zero => rfl
    | succ k ih => rw [sm, ih]; omega
  exact this g
theorem on_cnt {n : Nat} {X Y : Nat → Int} (h : Simple n X Y) (x y : Int) : onI n X Y x y = sm 0 n (fun j => cntI (X j) (Y j) (X (j + 1)) (Y (j + 1)) x y) := by
  have n3 := h.n3
  have p0 := h.px 0; have p1 := h.py 0; have q0 := h.px 1; have q1 := h.py 1
  rw [Nat.zero_add] at p0 p1
  have ne : ∀ j, ¬ (X (j + 1) = X j ∧ Y (j + 1) = Y j) := fun j => by have := h.edge j; omega
  unfold onI
  by_cases ho : ∃ j, j < n ∧ onP (X j) (Y j) (X (j + 1)) (Y (j + 1)) x y
  · rw [if_pos ho]
    have ho2 : ∃ j, j < n ∧ onP (X j) (Y j) (X (j + 1)) (Y (j + 1)) x y ∧ ¬ (x = X (j + 1) ∧ y = Y (j + 1)) := by
      obtain ⟨j, hj, o⟩ := ho
      by_cases c : x = X (j + 1) ∧ y = Y (j + 1)
      · by_cases d : j + 1 < n
        · refine ⟨j + 1, d, by rw [c.1, c.2]; exact onP_beg, fun k => ne (j + 1) ⟨by omega, by omega⟩⟩
        · rw [show j + 1 = n by omega, p0, p1] at c
          refine ⟨0, by omega, by rw [c.1, c.2]; exact onP_beg, fun k => ne 0 ⟨by omega, by omega⟩⟩
      · exact ⟨j, hj, o, c⟩
    obtain ⟨j, hj, o, e⟩ := ho2
    -- no other side has it, but for its end
    have uniq : ∀ a b, a < b → b < n → onP (X a) (Y a) (X (a + 1)) (Y (a + 1)) x y → ¬ (x = X (a + 1) ∧ y = Y (a + 1)) → onP (X b) (Y b) (X (b + 1)) (Y (b + 1)) x y → ¬ (x = X (b + 1) ∧ y = Y (b + 1)) → False := by
      intro a b hab hb oa ea ob eb
      by_cases c : b = a + 1
      · subst c
        exact ea (fwd_on (h.fwd a) (ne a) (ne (a + 1)) oa ob)
      · by_cases d : b + 2 ≤ a + n
        · exact sep_on (h.sep a b (by omega) d) (ne a) (ne b) oa ob
        · obtain rfl : a = 0 := by omega
          have bn : b + 1 = n := by omega
          have f := h.fwd b
          have e0 : X (b + 2) = X (0 + 1) := by rw [show b + 2 = 1 + n by omega, q0]
          have e1 : Y (b + 2) = Y (0 + 1) := by rw [show b + 2 = 1 + n by omega, q1]
          have e2 : X (b + 1) = X 0 := by rw [bn, p0]
          have e3 : Y (b + 1) = Y 0 := by rw [bn, p1]
          rw [e0, e1, e2, e3] at f
          rw [e2, e3] at ob eb
          exact eb (fwd_on f (by have := ne b; rw [e2, e3] at this; exact this) (ne 0) ob oa)
    have : sm 0 n (fun k => cntI (X k) (Y k) (X (k + 1)) (Y (k + 1)) x y) = sm 0 n (fun k => if k = j then 1 else 0) := sm_congr (fun k _ hk => by
      unfold cntI
      by_cases q : k = j
      · subst q; rw [if_pos ⟨o, e⟩, if_pos rfl]
      · rw [if_neg q, if_neg]
        rintro ⟨o2, e2⟩
        rcases Nat.lt_or_ge k j with z | z
        · exact uniq k j z hj o2 e2 o e
        · exact uniq j k (by omega) (by omega) o e o2 e2)
    rw [this, sm_delta, if_pos hj]
  · rw [if_neg ho]
    symm
    exact sm_zero (fun k _ hk => by unfold cntI; rw [if_neg]; exact fun c => ho ⟨k, by omega, c.1⟩)
theorem lat_on {n : Nat} {X Y : Nat → Int} (h : Simple n X Y) {M : Nat} (hX : ∀ i, -(M : Int) ≤ X i ∧ X i ≤ M) (hY : ∀ i, -(M : Int) ≤ Y i ∧ Y i ≤ M) :
    lat M (onI n X Y) = sm 0 n (fun j => (Int.gcd (X (j + 1) - X j) (Y (j + 1) - Y j) : Int)) := by
  have e : lat M (onI n X Y) = lat M (fun x y => sm 0 n (fun j => cntI (X j) (Y j) (X (j + 1)) (Y (j + 1)) x y)) := lat_congr (fun x y _ _ _ _ => on_cnt h x y)
  rw [e, lat_sm]
  exact sm_congr (fun j _ _ => lat_cnt (by have := h.edge j; omega) (hX j) (hX (j + 1)) (hY j) (hY (j + 1)))
end Go.Proofs.Ytgdhgncdpmalcaa.Geo
namespace Go.Proofs.Ytgdhgncdpmalcaa.Pure
open Go.RowKit Go.Proofs.Ytgdhgncdpmalcaa.Q Go.Proofs.Ytgdhgncdpmalcaa.Ring Go.Proofs.Ytgdhgncdpmalcaa.Geo Go.Proofs.YtgdhgncdpmalcaaW.PrintWords Go.Proofs.YtgdhgncdpmalcaaW.PrintLast
set_option linter.unusedVariables false
theorem xx_bd {l : List Pt} (h : cvB l = true) (i : Nat) : -10000 ≤ XX l i ∧ XX l i ≤ 10000 := (cv_at h i).1
theorem yy_bd {l : List Pt} (h : cvB l = true) (i : Nat) : -10000 ≤ YY l i ∧ YY l i ≤ 10000 := (cv_at h i).2
theorem okS_simple {l : List Pt} (h : okS l = true) : Simple l.length (XX l) (YY l) := Geo.SimpI.simple (okS_iff.1 h).2
theorem areaI_eq (l : List Pt) : areaI l.length (XX l) (YY l) = area2 l := rfl
/-- The lattice that holds all corners, and more. -/
theorem okS_pick {l : List Pt} (h : okS l = true) {M : Nat} (hM : 40000 ≤ M) : area2 l = (2 * wl l.length (XX l) (YY l) 0 - 1) * (2 * lat M (inI l.length (XX l) (YY l)) + lat M (onI l.length (XX l) (YY l)) - 2) := by
  have hc := (okS_iff.1 h).1
  rw [← areaI_eq]
  exact pick (okS_simple h) (okS_iff.1 h).2.dist (B := 10000) (by omega) (xx_bd hc) (yy_bd hc) (by omega)
theorem inI_01 (n : Nat) (X Y : Nat → Int) (x y : Int) : inI n X Y x y = 0 ∨ inI n X Y x y = 1 := by unfold inI; split <;> simp
theorem sm_nn {lo k : Nat} {f : Nat → Int} (h : ∀ j, 0 ≤ f j) : 0 ≤ sm lo k f := by
  induction k with
  | zero => exact Int.le_refl _
  | succ k ih => rw [sm]; have := h (lo + k); omega
theorem lat_nn {M : Nat} {F : Int → Int → Int} (h : ∀ x y, 0 ≤ F x y) : 0 ≤ lat M F := sm_nn (fun _ => sm_nn (fun _ => h _ _))
theorem on_least {l : List Pt} (h : okS l = true) {M : Nat} (hM : 40000 ≤ M) : (l.length : Int) ≤ lat M (onI l.length (XX l) (YY l)) := by
  have hc := (okS_iff.1 h).1
  have S := okS_simple h
  rw [lat_on S (fun i => by have := xx_bd hc i; omega) (fun i => by have := yy_bd hc i; omega)]
  have : ∀ n : Nat, (n : Int) ≤ sm 0 n (fun j => (Int.gcd (XX l (j + 1) - XX l j) (YY l (j + 1) - YY l j) : Int)) := by
    intro n
    induction n with
    | zero => exact Int.le_refl _
    | succ n ih =>
      have g : 0 < Int.gcd (XX l (0 + n + 1) - XX l (0 + n)) (YY l (0 + n + 1) - YY l (0 + n)) := Int.gcd_pos_iff.2 (by have := S.edge (0 + n); omega)
      rw [sm]; omega
  exact this _
theorem wl_sign {l : List Pt} (h : okS l = true) : (wl l.length (XX l) (YY l) 0 = 1 ∧ 0 < area2 l) ∨ (wl l.length (XX l) (YY l) 0 = 0 ∧ area2 l < 0) := by
  have hc := cvB_iff.1 (okS_iff.1 h).1
  have p := okS_pick h (M := 40000) (Nat.le_refl _)
  have o := on_least h (M := 40000) (Nat.le_refl _)
  have i := lat_nn (M := 40000) (inI_nn l)
  rcases wl_01 (okS_simple h) with w | w
  · rw [w] at p; left; exact ⟨w, by omega⟩
  · rw [w] at p; right; exact ⟨w, by omega⟩
where inI_nn (l : List Pt) : ∀ x y, 0 ≤ inI l.length (XX l) (YY l) x y := fun x y => by have := inI_01 l.length (XX l) (YY l) x y; omega
/-! places -/
theorem flip_cr {a b c d : Int} (h : Fwd a b c d) : (if ((decide (0 < b) != decide (0 < d)) && (decide (b < d) == decide (0 < cro a b c d))) = true then (1 : Int) else 0) = ((cr a b c d).natAbs : Int) := by
  obtain ⟨x, y, g1, g2⟩ := h
  have k1 : d * (x * a + y * b) - b * (x * c + y * d) = x * cro a b c d := by unfold cro; grind
  have z1 : ¬ (a = 0 ∧ b = 0) := fun ⟨p, q⟩ => by subst p; subst q; simp at g1
  have z2 : ¬ (c = 0 ∧ d = 0) := fun ⟨p, q⟩ => by subst p; subst q; simp at g2
  rcases Int.lt_or_le 0 b with hb | hb
  · rcases Int.lt_or_le 0 d with hd | hd
    · have e : cr a b c d = 0 := by unfold cr; rw [if_neg (by unfold low; omega), if_neg (by unfold low; omega)]
      rw [e, decide_eq_true hb, decide_eq_true hd]; rfl
    · have ne : cro a b c d ≠ 0 := fun z => by
        rw [z] at k1
        have m1 := Int.mul_nonneg (show 0 ≤ -d by omega) (Int.le_of_lt g1)
        have m2 := Int.mul_pos hb g2
        rw [Int.neg_mul] at m1; omega
      rw [decide_eq_true hb, decide_eq_false (show ¬ 0 < d by omega), decide_eq_false (show ¬ b < d by omega)]
      unfold cr
      rw [if_neg (show ¬ low a b by unfold low; omega)]
      by_cases lc : low c d
      · rw [if_pos lc]
        by_cases q : cro a b c d < 0
        · rw [if_pos q, decide_eq_false (show ¬ 0 < cro a b c d by omega)]; rfl
        · rw [if_neg q, decide_eq_true (show 0 < cro a b c d by omega)]; rfl
      · rw [if_neg lc]
        have : 0 < cro a b c d := by
          unfold low at lc
          have hd0 : d = 0 := by omega
          subst hd0
          have := Int.mul_pos hb (show 0 < -c by omega)
          unfold cro; rw [Int.mul_neg] at this; omega
        rw [decide_eq_true this]; rfl
  · rcases Int.lt_or_le 0 d with hd | hd
    · have ne : cro a b c d ≠ 0 := fun z => by
        rw [z] at k1
        have m1 := Int.mul_pos hd g1
        have m2 := Int.mul_nonneg (show 0 ≤ -b by omega) (Int.le_of_lt g2)
        rw [Int.neg_mul] at m2; omega
      rw [decide_eq_false (show ¬ 0 < b by omega), decide_eq_true hd, decide_eq_true (show b < d by omega)]
      unfold cr
      rw [if_neg (show ¬ low c d by unfold low; omega)]
      by_cases la : low a b
      · rw [if_pos la]
        by_cases q : 0 < cro a b c d
        · rw [if_pos q, decide_eq_true q]; rfl
        · rw [if_neg q, decide_eq_false q]; rfl
      · rw [if_neg la]
        have : ¬ 0 < cro a b c d := by
          unfold low at la
          have hb0 : b = 0 := by omega
          subst hb0
          have := Int.mul_pos (show 0 < -a by omega) hd
          unfold cro; rw [Int.neg_mul] at this; omega
        rw [decide_eq_false this, if_neg (show ¬ low c d by unfold low; omega)]; rfl
    · rw [decide_eq_false (show ¬ 0 < b by omega), decide_eq_false (show ¬ 0 < d by omega)]
      have e : cr a b c d = 0 := by
        unfold cr
        by_cases la : low a b
        · rw [if_pos la]
          by_cases lc : low c d
          · rw [if_pos lc]
          · rw [if_neg lc, if_neg]
            unfold low at lc
            have hd0 : d = 0 := by omega
            subst hd0
            have := Int.mul_nonneg (show 0 ≤ -b by omega) (show 0 ≤ -c by omega)
            unfold cro; rw [Int.neg_mul_neg] at this; omega
        · rw [if_neg la]
          by_cases lc : low c d
          · rw [if_pos lc, if_neg]
            unfold low at la
            have hb0 : b = 0 := by omega
            subst hb0
            have := Int.mul_nonneg (show 0 ≤ -a by omega) (show 0 ≤ -d by omega)
            unfold cro; rw [Int.neg_mul_neg] at this; omega
          · rw [if_neg lc]
      rw [e]; rfl
theorem on_X {l : List Pt} (hv : cvB l = true) {p : Pt} (hp : PVP p) (i : Nat) : onX l p i = true ↔ onP (XX l i) (YY l i) (XX l (i + 1)) (YY l (i + 1)) p.f0 p.f1 := on_iff (pvp hv _) (pvp hv _) hp
theorem onP_dec (l : List Pt) (p : Pt) : (∃ j, j < l.length ∧ onP (XX l j) (YY l j) (XX l (j + 1)) (YY l (j + 1)) p.f0 p.f1) ∨ ¬ ∃ j, j < l.length ∧ onP (XX l j) (YY l j) (XX l (j + 1)) (YY l (j + 1)) p.f0 p.f1 := Classical.em _
theorem flX_cr {l : List Pt} (hv : cvB l = true) {p : Pt} (hp : PVP p) (o : Offs l.length (XX l) (YY l) p.f0 p.f1) {i : Nat} (hi : i < l.length) : flX l p i = ((side (XX l) (YY l) p.f0 p.f1 i).natAbs : Int) := by
  unfold side
  rw [← flip_cr (o i hi)]
  unfold flX flipB
  have e1 : decide (p.f1 < (PC l i).f1) = decide (0 < YY l i - p.f1) := by rw [decide_eq_decide]; unfold YY; omega
  have e2 : decide (p.f1 < (PC l (i + 1)).f1) = decide (0 < YY l (i + 1) - p.f1) := by rw [decide_eq_decide]; unfold YY; omega
  have e3 : decide ((PC l i).f1 < (PC l (i + 1)).f1) = decide (YY l i - p.f1 < YY l (i + 1) - p.f1) := by rw [decide_eq_decide]; unfold YY; omega
  have e4 : decide (0 < sgnP (PC l i) (PC l (i + 1)) p) = decide (0 < cro (XX l i - p.f0) (YY l i - p.f1) (XX l (i + 1) - p.f0) (YY l (i + 1) - p.f1)) := by
    rw [decide_eq_decide, sgn_eq (pvp hv _) (pvp hv _) hp]
    have c : crs (PC l i).f0 (PC l i).f1 (PC l (i + 1)).f0 (PC l (i + 1)).f1 p.f0 p.f1 = cro (XX l i - p.f0) (YY l i - p.f1) (XX l (i + 1) - p.f0) (YY l (i + 1) - p.f1) := by unfold crs cro XX YY; grind
    rw [c]
    unfold sgn; split <;> (try split) <;> omega
  rw [e1, e2, e3, e4]
theorem par_sum {n : Nat} {f : Nat → Int} : sm 0 n (fun i => ((f i).natAbs : Int)) % 2 = sm 0 n f % 2 := by
  induction n with
  | zero => rfl
  | succ n ih => rw [sm, sm]; omega
/-- The place of a point, by the crossings. -/
theorem place_geo {l : List Pt} (h : okS l = true) {p : Pt} (hp : PVP p) :
    (placeR l p = 0 ∧ inI l.length (XX l) (YY l) p.f0 p.f1 = 0 ∧ onI l.length (XX l) (YY l) p.f0 p.f1 = 1 ∧ ∃ j, j < l.length ∧ onP (XX l j) (YY l j) (XX l (j + 1)) (YY l (j + 1)) p.f0 p.f1) ∨
    ((¬ ∃ j, j < l.length ∧ onP (XX l j) (YY l j) (XX l (j + 1)) (YY l (j + 1)) p.f0 p.f1) ∧ onI l.length (XX l) (YY l) p.f0 p.f1 = 0 ∧
      ((placeR l p = -1 ∧ inI l.length (XX l) (YY l) p.f0 p.f1 = 0 ∧ wn l.length (XX l) (YY l) p.f0 p.f1 = 0) ∨
       (placeR l p = 1 ∧ inI l.length (XX l) (YY l) p.f0 p.f1 = 1 ∧ wn l.length (XX l) (YY l) p.f0 p.f1 ≠ 0))) := by
  have hv := (okS_iff.1 h).1
  have h3 := (cvB_iff.1 hv).1
  have S := okS_simple h
  rcases onP_dec l p with ho | ho
  · left
    refine ⟨?_, ?_, ?_, ho⟩
    · obtain ⟨j, hj, o⟩ := ho
      exact place_on (by omega) ((on_X hv hp j).2 o)
    · unfold inI; rw [if_pos (.inl ho)]
    · unfold onI; rw [if_pos ho]
  · right
    have o := offs_not S ho
    refine ⟨ho, by unfold onI; rw [if_neg ho], ?_⟩
    have off : ∀ i, onX l p i = false := fun i => by
      rw [← onX_per]
      cases c : onX l p (i % l.length)
      · rfl
      · exact (ho ⟨i % l.length, Nat.mod_lt _ (by omega), (on_X hv hp _).1 c⟩).elim
    have e : sm 0 l.length (flX l p) = sm 0 l.length (fun i => ((side (XX l) (YY l) p.f0 p.f1 i).natAbs : Int)) := sm_congr (fun i _ hi => flX_cr hv hp o (by omega))
    have q : sm 0 l.length (flX l p) % 2 = wn l.length (XX l) (YY l) p.f0 p.f1 % 2 := by rw [e, par_sum]; rfl
    have w1 := wn_off S o
    have w2 := wl_01 S
    rw [place_off off]
    unfold parI
    by_cases z : wn l.length (XX l) (YY l) p.f0 p.f1 = 0
    · left
      rw [z] at q
      exact ⟨if_pos (by omega), by unfold inI; rw [if_pos (.inr z)], z⟩
    · right
      refine ⟨if_neg ?_, by unfold inI; rw [if_neg (fun c => c.elim ho z)], z⟩
      rw [q]
      rcases w2 with w2 | w2 <;> rw [w2] at w1 <;> omega
end Go.Proofs.Ytgdhgncdpmalcaa.Pure
namespace Go.Proofs.Ytgdhgncdpmalcaa.Geo
open Go.Proofs.Ytgdhgncdpmalcaa.Pure
set_option linter.unusedVariables false
/-- The point lies on a side. -/
def On (n : Nat) (X Y : Nat → Int) (x y : Int) : Prop := ∃ j, j < n ∧ onP (X j) (Y j) (X (j + 1)) (Y (j + 1)) x y
/-- At a corner, by the number of the left and the two sides there. -/
theorem c4_loc {n : Nat} {X Y : Nat → Int} (h : Simple n X Y) (i : Nat) : c4 n X Y (X (i + 1)) (Y (i + 1)) =
    4 * (wl n X Y 0 - cr (-(X (i + 1) - X i)) (-(Y (i + 1) - Y i)) (-(X (i + 2) - X (i + 1))) (-(Y (i + 2) - Y (i + 1))) - 1 + L (X (i + 2) - X (i + 1)) (Y (i + 2) - Y (i + 1))) +
      Phi (-(X (i + 1) - X i)) (-(Y (i + 1) - Y i)) - Phi (X (i + 2) - X (i + 1)) (Y (i + 2) - Y (i + 1)) := by
  rw [c4_at h i]
  have w := wl_all h i
  have w2 : wl n X Y i = open_ n X Y (i + 1) + cr (-(X (i + 1) - X i)) (-(Y (i + 1) - Y i)) (-(X (i + 2) - X (i + 1))) (-(Y (i + 2) - Y (i + 1))) + 1 - L (X (i + 2) - X (i + 1)) (Y (i + 2) - Y (i + 1)) := rfl
  omega
/-- On a side: at a corner, or inside the side. -/
theorem on_cases {n : Nat} {X Y : Nat → Int} (h : Simple n X Y) {x y : Int} (ho : On n X Y x y) : (∃ j, j < n ∧ x = X j ∧ y = Y j) ∨ c4 n X Y x y = 2 * (2 * wl n X Y 0 - 1) := by
  have n3 := h.n3
  by_cases hv : ∃ j, j < n ∧ x = X j ∧ y = Y j
  · exact .inl hv
  · right
    obtain ⟨j, hj, o⟩ := ho
    have ed := h.edge j
    obtain ⟨al, be, a0, a1, a2, a3, a4⟩ := on_div (by omega) o
    have i1 : j + (n - 1) + 1 = j + n := by omega
    have i2 : j + (n - 1) + 2 = j + 1 + n := by omega
    have can : ∀ {k u v : Int}, 0 < k → k * u = k * v → u = v := fun {k u v} hk e => Int.eq_of_mul_eq_mul_left (by omega) e
    have pa : 0 < al := by
      apply Classical.byContradiction; intro c
      obtain rfl : al = 0 := by omega
      simp only [Int.zero_add, Int.zero_mul] at a2 a3 a4
      have e1 := can a2 a3; have e2 := can a2 a4
      by_cases q : j + 1 < n
      · exact hv ⟨j + 1, q, e1, e2⟩
      · have p0 := h.px 0; have p1 := h.py 0
        rw [Nat.zero_add] at p0 p1
        rw [show j + 1 = n by omega, p0] at e1
        rw [show j + 1 = n by omega, p1] at e2
        exact hv ⟨0, by omega, e1, e2⟩
    have pb : 0 < be := by
      apply Classical.byContradiction; intro c
      obtain rfl : be = 0 := by omega
      simp only [Int.add_zero, Int.zero_mul] at a2 a3 a4
      exact hv ⟨j, hj, can a2 a3, can a2 a4⟩
    exact c4_in h (i := j + (n - 1)) (al := al) (be := be) (cx := x) (cy := y) pa pb (by rw [i1, i2, h.px, h.px]; exact a3) (by rw [i1, i2, h.py, h.py]; exact a4)
theorem on_corner {n : Nat} {X Y : Nat → Int} {j : Nat} (hj : j < n) : On n X Y (X j) (Y j) := ⟨j, hj, onP_beg⟩
/-- The corners 0 .. a of a polygon of a + b corners, and the corners a .. a + b. -/
structure Halves (a b : Nat) (X Y XA YA XB YB : Nat → Int) : Prop where
  P : Simple (a + b) X Y
  A : Simple (a + 1) XA YA
  B : Simple (b + 1) XB YB
  wP : wl (a + b) X Y 0 = 1
  wA : wl (a + 1) XA YA 0 = 1
  wB : wl (b + 1) XB YB 0 = 1
  eA : ∀ i, i ≤ a → XA i = X i ∧ YA i = Y i
  eB : ∀ i, i ≤ b → XB i = X (a + i) ∧ YB i = Y (a + i)
section
variable {a b : Nat} {X Y XA YA XB YB : Nat → Int} (H : Halves a b X Y XA YA XB YB)
include H
theorem Halves.zA : XA (a + 1) = X 0 ∧ YA (a + 1) = Y 0 := by
  have p := H.A.px 0; have q := H.A.py 0
  rw [Nat.zero_add] at p q
  exact ⟨p.trans (H.eA 0 (by omega)).1, q.trans (H.eA 0 (by omega)).2⟩
theorem Halves.zB : XB (b + 1) = X a ∧ YB (b + 1) = Y a := by
  have p := H.B.px 0; have q := H.B.py 0
  rw [Nat.zero_add] at p q
  exact ⟨p.trans (H.eB 0 (by omega)).1, q.trans (H.eB 0 (by omega)).2⟩
theorem Halves.zP : X (a + b) = X 0 ∧ Y (a + b) = Y 0 := by
  have p := H.P.px 0; have q := H.P.py 0
  rw [Nat.zero_add] at p q
  exact ⟨p, q⟩
theorem Halves.sum (F : Int → Int → Int → Int → Int) (hF : ∀ u v w z, F w z u v = -F u v w z) :
    sm 0 (a + b) (fun j => F (X j) (Y j) (X (j + 1)) (Y (j + 1))) = sm 0 (a + 1) (fun j => F (XA j) (YA j) (XA (j + 1)) (YA (j + 1))) + sm 0 (b + 1) (fun j => F (XB j) (YB j) (XB (j + 1)) (YB (j + 1))) := by
  rw [sm_split, sm, sm, sm_sh b]
  have e1 : sm 0 a (fun j => F (XA j) (YA j) (XA (j + 1)) (YA (j + 1))) = sm 0 a (fun j => F (X j) (Y j) (X (j + 1)) (Y (j + 1))) := sm_congr (fun j _ hj => by
    rw [(H.eA j (by omega)).1, (H.eA j (by omega)).2, (H.eA (j + 1) (by omega)).1, (H.eA (j + 1) (by omega)).2])
  have e2 : sm 0 b (fun j => F (XB j) (YB j) (XB (j + 1)) (YB (j + 1))) = sm 0 b (fun j => F (X (0 + a + j)) (Y (0 + a + j)) (X (0 + a + j + 1)) (Y (0 + a + j + 1))) := sm_congr (fun j _ hj => by
    rw [(H.eB j (by omega)).1, (H.eB j (by omega)).2, (H.eB (j + 1) (by omega)).1, (H.eB (j + 1) (by omega)).2, Nat.zero_add, Nat.add_assoc a j 1])
  rw [e1, e2, Nat.zero_add, Nat.zero_add, (H.eA a (by omega)).1, (H.eA a (by omega)).2, H.zA.1, H.zA.2, (H.eB b (by omega)).1, (H.eB b (by omega)).2, H.zB.1, H.zB.2, H.zP.1, H.zP.2, hF (X a) (Y a)]
  omega
theorem Halves.c4 (x y : Int) : c4 (a + b) X Y x y = Geo.c4 (a + 1) XA YA x y + Geo.c4 (b + 1) XB YB x y :=
  H.sum (fun u v w z => gS u v w z x y) (fun u v w z => gS_swap u v w z x y)
/-- A point on a side of the first part is on a side of the whole, or on the diagonal, a side of the second part. -/
theorem Halves.onA {x y : Int} (ho : On (a + 1) XA YA x y) : On (a + b) X Y x y ∨ onP (X a) (Y a) (X 0) (Y 0) x y := by
  obtain ⟨j, hj, o⟩ := ho
  have b3 := H.B.n3
  by_cases c : j = a
  · subst c
    rw [(H.eA j (by omega)).1, (H.eA j (by omega)).2, H.zA.1, H.zA.2] at o
    exact .inr o
  · rw [(H.eA j (by omega)).1, (H.eA j (by omega)).2, (H.eA (j + 1) (by omega)).1, (H.eA (j + 1) (by omega)).2] at o
    exact .inl ⟨j, by omega, o⟩
theorem Halves.onB {x y : Int} (ho : On (b + 1) XB YB x y) : On (a + b) X Y x y ∨ onP (X 0) (Y 0) (X a) (Y a) x y := by
  obtain ⟨j, hj, o⟩ := ho
  by_cases c : j = b
  · subst c
    rw [(H.eB j (by omega)).1, (H.eB j (by omega)).2, H.zB.1, H.zB.2, H.zP.1, H.zP.2] at o
    exact .inr o
  · rw [(H.eB j (by omega)).1, (H.eB j (by omega)).2, (H.eB (j + 1) (by omega)).1, (H.eB (j + 1) (by omega)).2] at o
    exact .inl ⟨a + j, by omega, o⟩
theorem Halves.dA {x y : Int} (o : onP (X a) (Y a) (X 0) (Y 0) x y) : On (a + 1) XA YA x y := by
  refine ⟨a, by omega, ?_⟩
  rw [(H.eA a (by omega)).1, (H.eA a (by omega)).2, H.zA.1, H.zA.2]; exact o
theorem Halves.dB {x y : Int} (o : onP (X 0) (Y 0) (X a) (Y a) x y) : On (b + 1) XB YB x y := by
  refine ⟨b, by omega, ?_⟩
  rw [(H.eB b (by omega)).1, (H.eB b (by omega)).2, H.zB.1, H.zB.2, H.zP.1, H.zP.2]; exact o
theorem Halves.onP {x y : Int} (ho : On (a + b) X Y x y) : On (a + 1) XA YA x y ∨ On (b + 1) XB YB x y := by
  obtain ⟨j, hj, o⟩ := ho
  by_cases c : j < a
  · left
    refine ⟨j, by omega, ?_⟩
    rw [(H.eA j (by omega)).1, (H.eA j (by omega)).2, (H.eA (j + 1) (by omega)).1, (H.eA (j + 1) (by omega)).2]; exact o
  · right
    refine ⟨j - a, by omega, ?_⟩
    rw [(H.eB (j - a) (by omega)).1, (H.eB (j - a) (by omega)).2, (H.eB (j - a + 1) (by omega)).1, (H.eB (j - a + 1) (by omega)).2, show a + (j - a) = j by omega, show a + (j - a + 1) = j + 1 by omega]; exact o
/-- Off both parts. -/
theorem Halves.off {x y : Int} (hA : ¬ On (a + 1) XA YA x y) (hB : ¬ On (b + 1) XB YB x y) : ¬ On (a + b) X Y x y ∧ wn (a + b) X Y x y = wn (a + 1) XA YA x y + wn (b + 1) XB YB x y := by
  have hP : ¬ On (a + b) X Y x y := fun o => (H.onP o).elim hA hB
  refine ⟨hP, ?_⟩
  have c := H.c4 x y
  rw [c4_off H.P.px H.P.py (offs_not H.P hP), c4_off H.A.px H.A.py (offs_not H.A hA), c4_off H.B.px H.B.py (offs_not H.B hB)] at c
  omega
/-- On both parts, but not on the whole. -/
theorem Halves.diag {x y : Int} (hA : On (a + 1) XA YA x y) (hB : On (b + 1) XB YB x y) (hP : ¬ On (a + b) X Y x y) : wn (a + b) X Y x y = 1 := by
  have a3 := H.A.n3; have b3 := H.B.n3
  have c := H.c4 x y
  rw [c4_off H.P.px H.P.py (offs_not H.P hP)] at c
  have eA : Geo.c4 (a + 1) XA YA x y = 2 := by
    rcases on_cases H.A hA with ⟨j, hj, e1, e2⟩ | e
    · rw [(H.eA j (by omega)).1] at e1; rw [(H.eA j (by omega)).2] at e2
      exact (hP (by rw [e1, e2]; exact on_corner (by omega))).elim
    · rw [e, H.wA]; rfl
  have eB : Geo.c4 (b + 1) XB YB x y = 2 := by
    rcases on_cases H.B hB with ⟨j, hj, e1, e2⟩ | e
    · rw [(H.eB j (by omega)).1] at e1; rw [(H.eB j (by omega)).2] at e2
      by_cases q : j = b
      · subst q; rw [H.zP.1] at e1; rw [H.zP.2] at e2
        exact (hP (by rw [e1, e2]; exact on_corner (by omega))).elim
      · exact (hP (by rw [e1, e2]; exact on_corner (by omega))).elim
    · rw [e, H.wB]; rfl
  omega
/-- On the first part alone. -/
theorem Halves.first {x y : Int} (hA : On (a + 1) XA YA x y) (hB : ¬ On (b + 1) XB YB x y) : On (a + b) X Y x y ∧ wn (b + 1) XB YB x y = 0 := by
  have a3 := H.A.n3; have b3 := H.B.n3
  have hP : On (a + b) X Y x y := (H.onA hA).elim id (fun o => (hB (H.dB (onP_sym.1 o))).elim)
  refine ⟨hP, ?_⟩
  have c := H.c4 x y
  rw [c4_off H.B.px H.B.py (offs_not H.B hB)] at c
  have key : Geo.c4 (a + b) X Y x y = Geo.c4 (a + 1) XA YA x y := by
    rcases on_cases H.P hP with ⟨j, hj, rfl, rfl⟩ | e
    · -- a corner: not one of the second part, so between 0 and a
      have ja : 0 < j ∧ j < a := by
        constructor
        · apply Classical.byContradiction; intro q
          obtain rfl : j = 0 := by omega
          exact hB (H.dB onP_beg)
        · apply Classical.byContradiction; intro q
          apply hB
          have := on_corner (X := XB) (Y := YB) (show j - a < b + 1 by omega)
          rw [(H.eB (j - a) (by omega)).1, (H.eB (j - a) (by omega)).2, show a + (j - a) = j by omega] at this
          exact this
      obtain ⟨i, rfl⟩ : ∃ i, j = i + 1 := ⟨j - 1, by omega⟩
      have l1 := c4_loc H.P i
      have l2 := c4_loc H.A i
      rw [(H.eA i (by omega)).1, (H.eA i (by omega)).2, (H.eA (i + 1) (by omega)).1, (H.eA (i + 1) (by omega)).2, (H.eA (i + 2) (by omega)).1, (H.eA (i + 2) (by omega)).2, H.wA] at l2
      rw [H.wP] at l1
      rw [l1, l2]
    · rcases on_cases H.A hA with ⟨j, hj, e1, e2⟩ | e'
      · -- a corner of the first part is one of the whole
        have ja : 0 < j ∧ j < a := by
          constructor
          · apply Classical.byContradiction; intro q
            obtain rfl : j = 0 := by omega
            rw [(H.eA 0 (by omega)).1] at e1; rw [(H.eA 0 (by omega)).2] at e2
            exact hB (H.dB (by rw [e1, e2]; exact onP_beg))
          · apply Classical.byContradiction; intro q
            obtain rfl : j = a := by omega
            rw [(H.eA j (by omega)).1] at e1; rw [(H.eA j (by omega)).2] at e2
            exact hB (H.dB (by rw [e1, e2]; exact onP_end))
        obtain ⟨i, rfl⟩ : ∃ i, j = i + 1 := ⟨j - 1, by omega⟩
        have l1 := c4_loc H.P i
        have l2 := c4_loc H.A i
        rw [(H.eA i (by omega)).1, (H.eA i (by omega)).2, (H.eA (i + 1) (by omega)).1, (H.eA (i + 1) (by omega)).2, (H.eA (i + 2) (by omega)).1, (H.eA (i + 2) (by omega)).2, H.wA] at l2
        rw [H.wP] at l1
        rw [(H.eA (i + 1) (by omega)).1] at e1; rw [(H.eA (i + 1) (by omega)).2] at e2
        rw [e1, e2, l1, l2]
      · rw [e, e', H.wP, H.wA]
  omega
theorem Halves.second {x y : Int} (hA : ¬ On (a + 1) XA YA x y) (hB : On (b + 1) XB YB x y) : On (a + b) X Y x y ∧ wn (a + 1) XA YA x y = 0 := by
  have a3 := H.A.n3; have b3 := H.B.n3
  have hP : On (a + b) X Y x y := (H.onB hB).elim id (fun o => (hA (H.dA (onP_sym.1 o))).elim)
  refine ⟨hP, ?_⟩
  have c := H.c4 x y
  rw [c4_off H.A.px H.A.py (offs_not H.A hA)] at c
  have loc : ∀ i, i + 2 ≤ b → Geo.c4 (a + b) X Y (X (a + i + 1)) (Y (a + i + 1)) = Geo.c4 (b + 1) XB YB (X (a + i + 1)) (Y (a + i + 1)) := by
    intro i hi
    have l1 := c4_loc H.P (a + i)
    have l2 := c4_loc H.B i
    rw [(H.eB i (by omega)).1, (H.eB i (by omega)).2, (H.eB (i + 1) (by omega)).1, (H.eB (i + 1) (by omega)).2, (H.eB (i + 2) (by omega)).1, (H.eB (i + 2) (by omega)).2, H.wB, ← Nat.add_assoc, ← Nat.add_assoc] at l2
    rw [H.wP] at l1
    rw [l1, l2]
  have key : Geo.c4 (a + b) X Y x y = Geo.c4 (b + 1) XB YB x y := by
    rcases on_cases H.P hP with ⟨j, hj, rfl, rfl⟩ | e
    · have ja : a < j := by
        apply Classical.byContradiction; intro q
        apply hA
        have := on_corner (X := XA) (Y := YA) (show j < a + 1 by omega)
        rw [(H.eA j (by omega)).1, (H.eA j (by omega)).2] at this
        exact this
      have := loc (j - a - 1) (by omega)
      rw [show a + (j - a - 1) + 1 = j by omega] at this
      exact this
    · rcases on_cases H.B hB with ⟨j, hj, e1, e2⟩ | e'
      · rw [(H.eB j (by omega)).1] at e1; rw [(H.eB j (by omega)).2] at e2
        have ja : 0 < j ∧ j < b := by
          constructor
          · apply Classical.byContradiction; intro q
            obtain rfl : j = 0 := by omega
            exact hA (H.dA (by rw [e1, e2]; exact onP_beg))
          · apply Classical.byContradiction; intro q
            obtain rfl : j = b := by omega
            rw [H.zP.1] at e1; rw [H.zP.2] at e2
            exact hA (H.dA (by rw [e1, e2]; exact onP_end))
        have := loc (j - 1) (by omega)
        rw [show a + (j - 1) + 1 = a + j by omega] at this
        rw [e1, e2]; exact this
      · rw [e, e', H.wP, H.wB]
  omega
end
end Go.Proofs.Ytgdhgncdpmalcaa.Geo
namespace Go.Proofs.Ytgdhgncdpmalcaa.Pure
open Go.RowKit Go.Proofs.Ytgdhgncdpmalcaa.Q Go.Proofs.Ytgdhgncdpmalcaa.Ring Go.Proofs.YtgdhgncdpmalcaaW.PrintWords Go.Proofs.YtgdhgncdpmalcaaW.PrintLast
theorem okP_cv {l : List Pt} (c : okP l = true) : cvB l = true := by
  unfold okP at c
  have := ((Bool.and_eq_true _ _).mp c).1
  unfold okS at this
  exact ((Bool.and_eq_true _ _).mp this).1
theorem implPValid_eq (l : List Pt) : impl_ParcelValid.f l = some (okP l) := by unfold impl_ParcelValid.f; cases okP l <;> rfl
theorem specPValid_eq {l : List Pt} (h : l.length ≤ 1048576) (k : Nat) (hk : l.length < k) : spec_ParcelValid.f k l = some (okP l) := by
  unfold spec_ParcelValid.f
  rw [show spec_PolyValid.f l = some (okS l) from if_pos h]
  simp only [Option.bind_some]
  unfold okP
  by_cases c : okS l = true
  · rw [if_pos c, spec_l31Area.f, show spec_l31Area.l0 k l 0 0 = some (areaS l l.length) from Area_l0 h l.length 0 k (by omega) hk, c]
    rfl
  · rw [if_neg c, Bool.eq_false_iff.2 c]; rfl
end Go.Proofs.Ytgdhgncdpmalcaa.Pure
namespace Go.Proofs.Ytgdhgncdpmalcaa.Pure
open Go.RowKit Go.Proofs.Ytgdhgncdpmalcaa.Q Go.Proofs.Ytgdhgncdpmalcaa.Ring Go.Proofs.YtgdhgncdpmalcaaW.PrintWords Go.Proofs.YtgdhgncdpmalcaaW.PrintLast
theorem pwS {x : Int} (h0 : -9000000000000000000 ≤ x) (h1 : x ≤ 9000000000000000000) : wrap64 x = x := by unfold wrap64; omega
theorem l6In_S (a b c : Int) : spec_l6In.f a b c = some (decide (b ≤ a ∧ a ≤ c)) := by
  unfold spec_l6In.f
  by_cases h : a ≥ b
  · rw [if_pos h]; congr 1; rw [decide_eq_decide]; omega
  · rw [if_neg h]; congr 1; symm; rw [decide_eq_false_iff_not]; omega
def leftL (l : List Pt) (a b : Nat) : List Pt := (l.take (b + 1)).drop a
def rightL (l : List Pt) (a b : Nat) : List Pt := l.drop b ++ l.take (a + 1)
def splitN (l : List Pt) (a b : Nat) : List Pt × List Pt × Bool := if okP (leftL l a b) && okP (rightL l a b) then (leftL l a b, rightL l a b, true) else ([], [], false)
def splitR (l : List Pt) (a b : Int) : List Pt × List Pt × Bool := if okP l = true ∧ 0 ≤ a ∧ a < b ∧ b < (l.length : Int) then splitN l a.toNat b.toNat else ([], [], false)
theorem left_len (l : List Pt) (a b : Nat) : (leftL l a b).length ≤ l.length := by unfold leftL; rw [List.length_drop, List.length_take]; omega
theorem right_len (l : List Pt) (a b : Nat) : (rightL l a b).length ≤ 2 * l.length := by unfold rightL; rw [List.length_append, List.length_drop, List.length_take]; omega
theorem splitN_len {l : List Pt} (h : l.length ≤ 12) (a b : Nat) : (splitN l a b).1.length ≤ 24 ∧ (splitN l a b).2.1.length ≤ 24 := by
  have := left_len l a b; have := right_len l a b
  unfold splitN
  split
  · exact ⟨by dsimp only; omega, by dsimp only; omega⟩
  · exact ⟨by simp, by simp⟩
theorem splitR_len (l : List Pt) (a b : Int) : (splitR l a b).1.length ≤ 24 ∧ (splitR l a b).2.1.length ≤ 24 := by
  unfold splitR
  by_cases c : okP l = true ∧ 0 ≤ a ∧ a < b ∧ b < (l.length : Int)
  · rw [if_pos c]; exact splitN_len (cvB_iff.1 (okP_cv c.1)).1.2 _ _
  · rw [if_neg c]; exact ⟨by simp, by simp⟩
theorem spec_j0 {l : List Pt} (hl : l.length ≤ 12) {a b : Nat} (h1 : a < b) (h2 : b < l.length) (k : Nat) (hk : 100 < k) : spec_ParcelSplit.j0 (k + 1) l (a : Int) (b : Int) false = some (splitN l a b) := by
  have e1 : wrap64 ((b : Int) + 1) = ((b + 1 : Nat) : Int) := by rw [pwS (by omega) (by omega)]; omega
  have e2 : wrap64 ((a : Int) + 1) = ((a + 1 : Nat) : Int) := by rw [pwS (by omega) (by omega)]; omega
  have n1 := left_len l a b; have n2 := right_len l a b
  have n3 : (l.drop b).length ≤ 12 := by rw [List.length_drop]; omega
  have n4 : (l.take (a + 1)).length ≤ 12 := by rw [List.length_take]; omega
  simp only [spec_ParcelSplit.j0, Option.bind_some, e1, e2, Int.toNat_natCast, List.nil_append]
  rw [if_neg (by decide), if_pos (by omega), if_pos (by omega), if_pos (by omega)]
  change (if ([] : List Pt).length + (leftL l a b).length < _ then _ else _) = _
  rw [if_pos (by simp; omega), if_pos (by omega), if_pos (by omega), if_pos (by simp; omega), if_pos (by omega), if_pos (by omega), if_pos (by omega)]
  change (spec_ParcelValid.f k (leftL l a b)).bind (fun t => if t = true then (spec_ParcelValid.f k (rightL l a b)).bind (fun u => if u = true then some (leftL l a b, rightL l a b, true) else some ([], [], false)) else some ([], [], false)) = _
  rw [specPValid_eq (by omega) k (by omega), specPValid_eq (by omega) k (by omega)]
  simp only [Option.bind_some]
  unfold splitN
  cases okP (leftL l a b)
  · rfl
  · cases okP (rightL l a b) <;> rfl
theorem impl_j0 {l : List Pt} (hl : l.length ≤ 12) {a b : Nat} (h1 : a < b) (h2 : b < l.length) (k : Nat) : impl_ParcelSplit.j0 (k + 1) l (a : Int) (b : Int) false = some (splitN l a b) := by
  have e1 : wrap64 ((b : Int) + 1) = ((b + 1 : Nat) : Int) := by rw [pwS (by omega) (by omega)]; omega
  have e2 : wrap64 ((a : Int) + 1) = ((a + 1 : Nat) : Int) := by rw [pwS (by omega) (by omega)]; omega
  have n1 := left_len l a b; have n2 := right_len l a b
  have n3 : (l.drop b).length ≤ 12 := by rw [List.length_drop]; omega
  have n4 : (l.take (a + 1)).length ≤ 12 := by rw [List.length_take]; omega
  simp only [impl_ParcelSplit.j0, Option.bind_some, e1, e2, Int.toNat_natCast, List.nil_append]
  rw [if_neg (by decide), if_pos (by omega), if_pos (by omega), if_pos (by omega)]
  change (if ([] : List Pt).length + (leftL l a b).length < _ then _ else _) = _
  rw [if_pos (by simp; omega), if_pos (by omega), if_pos (by omega), if_pos (by simp; omega), if_pos (by omega), if_pos (by omega), if_pos (by omega)]
  change (impl_ParcelValid.f (leftL l a b)).bind (fun t => if t = true then (impl_ParcelValid.f (rightL l a b)).bind (fun u => if u = true then some (leftL l a b, rightL l a b, true) else some ([], [], false)) else some ([], [], false)) = _
  rw [implPValid_eq, implPValid_eq]
  simp only [Option.bind_some]
  unfold splitN
  cases okP (leftL l a b)
  · rfl
  · cases okP (rightL l a b) <;> rfl
theorem spec_j0_no (k : Nat) (l : List Pt) (a b : Int) : spec_ParcelSplit.j0 (k + 1) l a b true = some ([], [], false) := by
  simp only [spec_ParcelSplit.j0]; rw [if_pos trivial]
theorem impl_j0_no (k : Nat) (l : List Pt) (a b : Int) : impl_ParcelSplit.j0 (k + 1) l a b true = some ([], [], false) := by
  simp only [impl_ParcelSplit.j0]; rw [if_pos trivial]
theorem specSplit_eq {l : List Pt} (h : l.length ≤ 1048576) {a b : Int} (ha : -9223372036854775808 ≤ a ∧ a ≤ 9223372036854775807) (hb : -9223372036854775808 ≤ b ∧ b ≤ 9223372036854775807) (k : Nat) (hk : l.length + 102 < k) : spec_ParcelSplit.f k l a b = some (splitR l a b) := by
  obtain ⟨k, rfl⟩ : ∃ m, k = m + 1 := ⟨k - 1, by omega⟩
  unfold spec_ParcelSplit.f
  rw [specPValid_eq h _ (by omega)]
  simp only [Option.bind_some, l6In_S]
  unfold splitR
  by_cases c : okP l = true
  · have hn := (cvB_iff.1 (okP_cv c)).1
    rw [if_pos c, pwS (x := (l.length : Int) - 1) (by omega) (by omega)]
    by_cases c1 : 0 ≤ b ∧ b ≤ (l.length : Int) - 1
    · rw [if_pos (by simpa using c1), pwS (x := b - 1) (by omega) (by omega)]
      by_cases c2 : 0 ≤ a ∧ a ≤ b - 1
      · rw [decide_eq_true c2, if_pos ⟨c, by omega, by omega, by omega⟩]
        have := spec_j0 hn.2 (a := a.toNat) (b := b.toNat) (by omega) (by omega) k (by omega)
        rwa [Int.toNat_of_nonneg c2.1, Int.toNat_of_nonneg c1.1] at this
      · rw [decide_eq_false c2, if_neg (by omega)]; exact spec_j0_no _ _ _ _
    · rw [if_neg (by simpa using c1), if_neg (by omega)]; exact spec_j0_no _ _ _ _
  · rw [if_neg c, if_neg (fun e => c e.1)]; exact spec_j0_no _ _ _ _
theorem implSplit_eq {l : List Pt} {a b : Int} (k : Nat) (hk : 0 < k) : impl_ParcelSplit.f k l a b = some (splitR l a b) := by
  obtain ⟨k, rfl⟩ : ∃ m, k = m + 1 := ⟨k - 1, by omega⟩
  unfold impl_ParcelSplit.f
  rw [implPValid_eq]
  simp only [Option.bind_some]
  unfold splitR
  by_cases c : okP l = true
  · have hn := (cvB_iff.1 (okP_cv c)).1
    rw [if_pos c]
    by_cases c1 : a < 0
    · rw [if_pos c1, if_neg (by omega)]; exact impl_j0_no _ _ _ _
    · rw [if_neg c1]
      by_cases c2 : a ≥ b
      · rw [if_pos c2, if_neg (by omega)]; exact impl_j0_no _ _ _ _
      · rw [if_neg c2]
        by_cases c3 : b ≥ (l.length : Int)
        · rw [decide_eq_true c3, if_neg (by omega)]; exact impl_j0_no _ _ _ _
        · rw [decide_eq_false c3, if_pos ⟨c, by omega, by omega, by omega⟩]
          have := impl_j0 hn.2 (a := a.toNat) (b := b.toNat) (by omega) (by omega) k
          rwa [Int.toNat_of_nonneg (by omega), Int.toNat_of_nonneg (by omega)] at this
  · rw [if_neg c, if_neg (fun e => c e.1)]; exact impl_j0_no _ _ _ _
end Go.Proofs.Ytgdhgncdpmalcaa.Pure
namespace Go.Proofs.Ytgdhgncdpmalcaa.Pure
open Go.RowKit Go.Proofs.Ytgdhgncdpmalcaa.Q Go.Proofs.Ytgdhgncdpmalcaa.Ring Go.Proofs.Ytgdhgncdpmalcaa.Geo Go.Proofs.YtgdhgncdpmalcaaW.PrintWords Go.Proofs.YtgdhgncdpmalcaaW.PrintLast
set_option linter.unusedVariables false
theorem okP_iff {l : List Pt} : okP l = true ↔ okS l = true ∧ 0 < area2 l := by
  unfold okP
  rw [Bool.and_eq_true]
  constructor
  · rintro ⟨h1, h2⟩
    have hc := (okS_iff.1 h1).1
    rw [areaS_eq hc] at h2
    exact ⟨h1, by simpa using h2⟩
  · rintro ⟨h1, h2⟩
    have hc := (okS_iff.1 h1).1
    rw [areaS_eq hc]
    exact ⟨h1, by simpa using h2⟩
theorem okP_wl {l : List Pt} (h : okP l = true) : wl l.length (XX l) (YY l) 0 = 1 := by
  have q := okP_iff.1 h
  rcases wl_sign q.1 with w | w
  · exact w.1
  · omega
theorem PC_left {l : List Pt} {a b : Nat} (hab : a < b) (hb : b < l.length) {i : Nat} (hi : i ≤ b - a) : PC (leftL l a b) i = PC l (a + i) := by
  have hl : (leftL l a b).length = b - a + 1 := by unfold leftL; rw [List.length_drop, List.length_take]; omega
  rw [PC_at (by omega), PC_at (by omega)]
  unfold leftL
  rw [at_drop, at_take (by omega)]
theorem PC_right {l : List Pt} {a b : Nat} (hab : a < b) (hb : b < l.length) {i : Nat} (hi : i ≤ l.length - b + a) : PC (rightL l a b) i = PC l (b + i) := by
  have hl : (rightL l a b).length = l.length - b + (a + 1) := by unfold rightL; rw [List.length_append, List.length_drop, List.length_take]; omega
  rw [PC_at (by omega)]
  unfold rightL
  rw [at_app, List.length_drop]
  by_cases c : i < l.length - b
  · rw [if_pos c, at_drop, PC_at (by omega)]
  · rw [if_neg c, at_take (by omega), show b + i = (i - (l.length - b)) + l.length by omega, PC_per, PC_at (by omega)]
theorem halves {l : List Pt} {a b : Nat} (hab : a < b) (hb : b < l.length) (h : okP l = true) (h1 : okP (leftL l a b) = true) (h2 : okP (rightL l a b) = true) :
    Halves (b - a) (l.length - b + a) (XX (begL l a)) (YY (begL l a)) (XX (leftL l a b)) (YY (leftL l a b)) (XX (rightL l a b)) (YY (rightL l a b)) := by
  have ll : (leftL l a b).length = b - a + 1 := by unfold leftL; rw [List.length_drop, List.length_take]; omega
  have lr : (rightL l a b).length = l.length - b + a + 1 := by unfold rightL; rw [List.length_append, List.length_drop, List.length_take]; omega
  have lb : (begL l a).length = (b - a) + (l.length - b + a) := by rw [begL_length (by omega)]; omega
  have q := okP_iff.1 h
  have hP : okP (begL l a) = true := okP_iff.2 ⟨okS_beg q.1 (by omega), by rw [area2_beg (by omega)]; exact q.2⟩
  have sP := okS_simple (okP_iff.1 hP).1
  have sA := okS_simple (okP_iff.1 h1).1
  have sB := okS_simple (okP_iff.1 h2).1
  have wP := okP_wl hP; have wA := okP_wl h1; have wB := okP_wl h2
  rw [lb] at sP wP; rw [ll] at sA wA; rw [lr] at sB wB
  refine ⟨sP, sA, sB, wP, wA, wB, fun i hi => ?_, fun i hi => ?_⟩
  · unfold XX YY
    rw [PC_left hab hb hi, PC_beg (by omega), Nat.add_comm a i]; exact ⟨rfl, rfl⟩
  · unfold XX YY
    rw [PC_right hab hb hi, PC_beg (by omega), show b - a + i + a = b + i by omega]; exact ⟨rfl, rfl⟩
theorem off_cases {x y z a b c : Int} (hx : (x = -1 ∧ a = 0) ∨ (x = 1 ∧ a ≠ 0)) (hy : (y = -1 ∧ b = 0) ∨ (y = 1 ∧ b ≠ 0)) (hz : (z = -1 ∧ c = 0) ∨ (z = 1 ∧ c ≠ 0)) (s : c = a + b) (hc : c = 0 ∨ c = 1) (ha : a = 0 ∨ a = 1) (hb : b = 0 ∨ b = 1) :
    (x = 0 ∧ y = 0 ∧ z = 0) ∨ (x = 0 ∧ y = 0 ∧ z = 1) ∨ (x = 0 ∧ y = -1 ∧ z = 0) ∨ (x = -1 ∧ y = 0 ∧ z = 0) ∨ (x = -1 ∧ y = -1 ∧ z = -1) ∨ (x = 1 ∧ y = -1 ∧ z = 1) ∨ (x = -1 ∧ y = 1 ∧ z = 1) := by
  rcases hx with ⟨rfl, ea⟩ | ⟨rfl, ea⟩ <;> rcases hy with ⟨rfl, eb⟩ | ⟨rfl, eb⟩ <;> rcases hz with ⟨rfl, ec⟩ | ⟨rfl, ec⟩ <;> omega
/-- Where a point lies against both parts and the whole. -/
theorem split_places {l : List Pt} {a b : Nat} (hab : a < b) (hb : b < l.length) (h : okP l = true) (h1 : okP (leftL l a b) = true) (h2 : okP (rightL l a b) = true) {p : Pt} (hp : PVP p) :
    ∃ x y z : Int, placeR (leftL l a b) p = x ∧ placeR (rightL l a b) p = y ∧ placeR l p = z ∧
      ((x = 0 ∧ y = 0 ∧ z = 0) ∨ (x = 0 ∧ y = 0 ∧ z = 1) ∨ (x = 0 ∧ y = -1 ∧ z = 0) ∨ (x = -1 ∧ y = 0 ∧ z = 0) ∨ (x = -1 ∧ y = -1 ∧ z = -1) ∨ (x = 1 ∧ y = -1 ∧ z = 1) ∨ (x = -1 ∧ y = 1 ∧ z = 1)) := by
  have H := halves hab hb h h1 h2
  have ll : (leftL l a b).length = b - a + 1 := by unfold leftL; rw [List.length_drop, List.length_take]; omega
  have lr : (rightL l a b).length = l.length - b + a + 1 := by unfold rightL; rw [List.length_append, List.length_drop, List.length_take]; omega
  have lb : (begL l a).length = (b - a) + (l.length - b + a) := by rw [begL_length (by omega)]; omega
  have q := okP_iff.1 h
  have gP := place_geo (okS_beg q.1 (show a < l.length by omega)) hp
  have gA := place_geo (okP_iff.1 h1).1 hp
  have gB := place_geo (okP_iff.1 h2).1 hp
  rw [place_beg (by omega)] at gP
  rw [lb] at gP; rw [ll] at gA; rw [lr] at gB
  refine ⟨_, _, _, rfl, rfl, rfl, ?_⟩
  have w01 : ∀ {n : Nat} {X Y : Nat → Int}, Simple n X Y → wl n X Y 0 = 1 → ¬ On n X Y p.f0 p.f1 → wn n X Y p.f0 p.f1 = 0 ∨ wn n X Y p.f0 p.f1 = 1 := fun S w no => by
    have := wn_off S (offs_not S no); rw [w] at this; omega
  rcases gA with ⟨a1, _, _, oA⟩ | ⟨nA, _, cA⟩
  · rcases gB with ⟨b1, _, _, oB⟩ | ⟨nB, _, cB⟩
    · rcases gP with ⟨c1, _⟩ | ⟨nP, _, cP⟩
      · omega
      · have := H.diag oA oB nP
        rcases cP with ⟨_, _, w⟩ | ⟨c1, _, _⟩ <;> omega
    · obtain ⟨oP, wB⟩ := H.first oA nB
      rcases gP with ⟨c1, _⟩ | ⟨nP, _⟩
      · rcases cB with ⟨b1, _, _⟩ | ⟨_, _, w⟩
        · omega
        · exact (w wB).elim
      · exact (nP oP).elim
  · rcases gB with ⟨b1, _, _, oB⟩ | ⟨nB, _, cB⟩
    · obtain ⟨oP, wA⟩ := H.second nA oB
      rcases gP with ⟨c1, _⟩ | ⟨nP, _⟩
      · rcases cA with ⟨a1, _, _⟩ | ⟨_, _, w⟩
        · omega
        · exact (w wA).elim
      · exact (nP oP).elim
    · obtain ⟨nP', wS⟩ := H.off nA nB
      rcases gP with ⟨_, _, _, oP⟩ | ⟨nP, _, cP⟩
      · exact (nP' oP).elim
      · have u1 := w01 H.P H.wP nP; have u2 := w01 H.A H.wA nA; have u3 := w01 H.B H.wB nB
        exact off_cases (cA.imp (fun h => ⟨h.1, h.2.2⟩) (fun h => ⟨h.1, h.2.2⟩)) (cB.imp (fun h => ⟨h.1, h.2.2⟩) (fun h => ⟨h.1, h.2.2⟩)) (cP.imp (fun h => ⟨h.1, h.2.2⟩) (fun h => ⟨h.1, h.2.2⟩)) wS u1 u2 u3
end Go.Proofs.Ytgdhgncdpmalcaa.Pure
namespace Go.Proofs.Ytgdhgncdpmalcaa.Pure
open Go.RowKit Go.Proofs.Ytgdhgncdpmalcaa.Q Go.Proofs.YtgdhgncdpmalcaaW.PrintWords Go.Proofs.YtgdhgncdpmalcaaW.PrintLast Go.Proofs.YtgdhgncdpmalcaaW.PrintMore

theorem rw64 {x : Int} (h0 : -9223372036854775808 ≤ x) (h1 : x ≤ 9223372036854775807) : wrap64 x = x := by
  unfold wrap64; omega

theorem xor_nonneg (x y : Int) (hx : 0 ≤ x) (hx' : x < 2 ^ 62) (hy : 0 ≤ y) (hy' : y < 2 ^ 62) : 0 ≤ Go.bits .xor .i64 x y := by
  obtain ⟨a, rfl⟩ : ∃ a : Nat, x = a := ⟨x.toNat, by omega⟩
  obtain ⟨b, rfl⟩ : ∃ b : Nat, y = b := ⟨y.toNat, by omega⟩
  have ha : a < 2 ^ 62 := by omega
  have hb : b < 2 ^ 62 := by omega
  have ha' : a % 2 ^ 64 = a := Nat.mod_eq_of_lt (by omega)
  have hb' : b % 2 ^ 64 = b := Nat.mod_eq_of_lt (by omega)
  have h := Nat.xor_lt_two_pow ha hb
  have e : Go.bits .xor .i64 (a : Int) (b : Int) = ((a ^^^ b : Nat) : Int) := by
    have e0 : Go.bits .xor .i64 (a : Int) (b : Int) = IntKind.i64.wrap ((BitVec.ofInt 64 (a : Int) ^^^ BitVec.ofInt 64 (b : Int)).toNat : Int) := rfl
    rw [e0, BitVec.ofInt_natCast, BitVec.ofInt_natCast, BitVec.toNat_xor, BitVec.toNat_ofNat, BitVec.toNat_ofNat, ha', hb', IntKind.wrap_i64]
    omega
  rw [e]
  exact Int.natCast_nonneg _

/-- All numbers of a list are bytes. -/
def Bts (b : List Int) : Prop := b.length ≤ 2000 ∧ ∀ x ∈ b, 0 ≤ x ∧ x ≤ 255
theorem Bts.at_ {b : List Int} (h : Bts b) (i : Int) : 0 ≤ rd b i ∧ rd b i ≤ 255 := by
  unfold rd
  by_cases hi : i.toNat < b.length
  · rw [List.getD_eq_getElem?_getD, List.getElem?_eq_getElem hi]; exact h.2 _ (List.getElem_mem hi)
  · rw [List.getD_eq_getElem?_getD, List.getElem?_eq_none (by omega)]; simp

theorem pick_ok (k : Nat) {b : List Int} {p n : Int} (hb : Bts b) (hp : 0 ≤ p ∧ p ≤ 1000000) (hn : 1 ≤ n) :
    ∃ v, spec_l6Rd_pick.f (k + 1) b p n = some (v, p + 1) ∧ 0 ≤ v ∧ v < n := by
  unfold spec_l6Rd_pick.f
  rw [if_neg (by omega), rw64 (x := p + 1) (by omega) (by omega)]
  simp only [spec_l6Rd_pick.j0]
  by_cases h0 : (b.length : Int) = 0
  · exact ⟨0, by rw [if_pos (by simpa using h0)], by omega, by omega⟩
  · rw [if_neg (by simpa using h0), show p + 1 - 1 = p by omega, rw64 (x := p) (by omega) (by omega)]
    have hlen : 0 < (b.length : Int) := by omega
    have hL := hb.1
    by_cases h1 : p < (b.length : Int)
    · rw [if_pos h1, if_pos hp.1, if_neg (by omega)]
      have hr := hb.at_ p
      rw [rw64 (by omega) (by omega), Int.tmod_eq_emod_of_nonneg hr.1]
      exact ⟨_, rfl, Int.emod_nonneg _ (by omega), Int.emod_lt_of_pos _ (by omega)⟩
    · rw [if_neg h1, if_neg h0]
      have q0 : 0 ≤ Int.tmod p (b.length : Int) := by rw [Int.tmod_eq_emod_of_nonneg hp.1]; exact Int.emod_nonneg _ (by omega)
      have q1 : Int.tmod p (b.length : Int) < (b.length : Int) := by rw [Int.tmod_eq_emod_of_nonneg hp.1]; exact Int.emod_lt_of_pos _ hlen
      rw [rw64 (x := p * 7) (by omega) (by omega), rw64 (x := p * 7 + 3) (by omega) (by omega)]
      have q2 : 0 ≤ Int.tmod (p * 7 + 3) (b.length : Int) := by rw [Int.tmod_eq_emod_of_nonneg (by omega)]; exact Int.emod_nonneg _ (by omega)
      have q3 : Int.tmod (p * 7 + 3) (b.length : Int) < (b.length : Int) := by rw [Int.tmod_eq_emod_of_nonneg (by omega)]; exact Int.emod_lt_of_pos _ hlen
      rw [if_pos q0, if_pos q1, if_pos q2, if_pos q3, if_neg (by omega)]
      have hr := hb.at_ (Int.tmod p (b.length : Int))
      have hs := hb.at_ (Int.tmod (p * 7 + 3) (b.length : Int))
      have hd : 0 ≤ Int.tdiv p (b.length : Int) ∧ Int.tdiv p (b.length : Int) ≤ p := by
        rw [Int.tdiv_eq_ediv_of_nonneg hp.1]
        exact ⟨Int.ediv_nonneg hp.1 (by omega), Int.ediv_le_self _ hp.1⟩
      generalize rd b (Int.tmod p (b.length : Int)) = u at *
      generalize rd b (Int.tmod (p * 7 + 3) (b.length : Int)) = v at *
      generalize Int.tdiv p (b.length : Int) = d at *
      rw [rw64 (x := u) (by omega) (by omega), rw64 (x := v) (by omega) (by omega), rw64 (x := u * 131) (by omega) (by omega), rw64 (x := v * 1117) (by omega) (by omega),
        rw64 (x := u * 131 + v * 1117) (by omega) (by omega), rw64 (x := p * 29) (by omega) (by omega), rw64 (x := u * 131 + v * 1117 + p * 29) (by omega) (by omega),
        rw64 (x := d) (by omega) (by omega), rw64 (x := d * 53) (by omega) (by omega), rw64 (x := u * 131 + v * 1117 + p * 29 + d * 53) (by omega) (by omega)]
      have hx : 0 ≤ u * 131 + v * 1117 + p * 29 + d * 53 := by omega
      have hx' : u * 131 + v * 1117 + p * 29 + d * 53 < 2 ^ 60 := by omega
      generalize u * 131 + v * 1117 + p * 29 + d * 53 = x at *
      have hy : 0 ≤ Int.tdiv x 64 ∧ Int.tdiv x 64 < 2 ^ 60 := by rw [Int.tdiv_eq_ediv_of_nonneg hx]; omega
      rw [rw64 (x := Int.tdiv x 64) (by omega) (by omega)]
      have hz := xor_nonneg x (Int.tdiv x 64) hx (by omega) hy.1 (by omega)
      rw [Int.tmod_eq_emod_of_nonneg hz]
      exact ⟨_, rfl, Int.emod_nonneg _ (by omega), Int.emod_lt_of_pos _ (by omega)⟩

theorem open_ok {l : List Int} (hl : ∀ x ∈ l, (Lit.int .u8 x).wf = true) : ∃ b, spec_l6Open.f l = some (b, 0) ∧ Bts b := by
  have hb : ∀ x ∈ l, 0 ≤ x ∧ x ≤ 255 := fun x hx => by
    have := hl x hx
    simp [Lit.wf, IntKind.min, IntKind.max, IntKind.signed, IntKind.bits] at this
    omega
  unfold spec_l6Open.f
  by_cases h : (l.length : Int) > 2000
  · rw [if_pos h, if_pos (by omega)]
    exact ⟨_, rfl, by rw [List.length_take]; omega, fun x hx => hb x (List.mem_of_mem_take hx)⟩
  · rw [if_neg h]
    exact ⟨_, rfl, by omega, hb⟩
end Go.Proofs.Ytgdhgncdpmalcaa.Pure
namespace Go.Proofs.Ytgdhgncdpmalcaa.Pure
open Go.RowKit Go.Proofs.Ytgdhgncdpmalcaa.Q Go.Proofs.YtgdhgncdpmalcaaW.PrintWords Go.Proofs.YtgdhgncdpmalcaaW.PrintLast Go.Proofs.YtgdhgncdpmalcaaW.PrintMore

theorem l91Point_ok (k : Nat) {b : List Int} {p : Int} (hb : Bts b) (hp : 0 ≤ p ∧ p ≤ 100000) :
    ∃ x y q, spec_l91Point.f (k + 1) b p = some (x, y, q) ∧ p ≤ q ∧ q ≤ p + 5 ∧ -10001 ≤ x ∧ x ≤ 10001 ∧ -10001 ≤ y ∧ y ≤ 10001 := by
  unfold spec_l91Point.f
  obtain ⟨v1, h1, _, _⟩ := pick_ok k hb (p := p) (n := 13) (by omega) (by omega)
  obtain ⟨v2, h2, _, _⟩ := pick_ok k hb (p := p + 1) (n := 13) (by omega) (by omega)
  obtain ⟨v3, h3, _, _⟩ := pick_ok k hb (p := p + 1 + 1) (n := 40) (by omega) (by omega)
  rw [h1]; simp only [Option.bind_some]
  rw [h2]; simp only [Option.bind_some]
  rw [h3]; simp only [Option.bind_some]
  rw [rw64 (x := v1 - 6) (by omega) (by omega), rw64 (x := v2 - 6) (by omega) (by omega)]
  by_cases e0 : v3 = 0
  · rw [if_pos e0]
    obtain ⟨v4, h4, _, _⟩ := pick_ok k hb (p := p + 1 + 1 + 1) (n := 3) (by omega) (by omega)
    rw [h4]; simp only [Option.bind_some]
    rw [if_pos (by omega), if_pos (by simp; omega)]
    refine ⟨_, _, _, rfl, by omega, by omega, ?_⟩
    have : v4 = 0 ∨ v4 = 1 ∨ v4 = 2 := by omega
    rcases this with rfl | rfl | rfl <;> refine ⟨by decide, by decide, by omega, by omega⟩
  · rw [if_neg e0]
    by_cases e1 : v3 = 1
    · rw [if_pos e1]
      obtain ⟨v4, h4, _, _⟩ := pick_ok k hb (p := p + 1 + 1 + 1) (n := 200) (by omega) (by omega)
      obtain ⟨v5, h5, _, _⟩ := pick_ok k hb (p := p + 1 + 1 + 1 + 1) (n := 200) (by omega) (by omega)
      rw [h4]; simp only [Option.bind_some]
      rw [h5]; simp only [Option.bind_some]
      rw [rw64 (x := v4 * 50) (by omega) (by omega), rw64 (x := v5 * 50) (by omega) (by omega), rw64 (x := v4 * 50 - 5000) (by omega) (by omega), rw64 (x := v5 * 50 - 5000) (by omega) (by omega)]
      exact ⟨_, _, _, rfl, by omega, by omega, by omega, by omega, by omega, by omega⟩
    · rw [if_neg e1]
      exact ⟨_, _, _, rfl, by omega, by omega, by omega, by omega, by omega, by omega⟩

end Go.Proofs.Ytgdhgncdpmalcaa.Pure
namespace Go.Proofs.Ytgdhgncdpmalcaa.Pure
open Go.RowKit Go.Proofs.Ytgdhgncdpmalcaa.Q Go.Proofs.YtgdhgncdpmalcaaW.PrintWords Go.Proofs.YtgdhgncdpmalcaaW.PrintLast Go.Proofs.YtgdhgncdpmalcaaW.PrintMore
theorem l92Box_ok (k : Nat) {b : List Int} {p : Int} (hb : Bts b) (hp : 0 ≤ p ∧ p ≤ 100000) : ∃ l q, spec_l92Box.f (k + 2) b p = some (l, q) ∧ p ≤ q ∧ q ≤ p + 10 ∧ l.length ≤ 12 := by
  unfold spec_l92Box.f
  obtain ⟨v1, h1, _, _⟩ := pick_ok (k + 1) hb (p := p) (n := 5) (by omega) (by omega)
  obtain ⟨v2, h2, _, _⟩ := pick_ok (k + 1) hb (p := p + 1) (n := 5) (by omega) (by omega)
  obtain ⟨v3, h3, _, _⟩ := pick_ok (k + 1) hb (p := p + 1 + 1) (n := 5) (by omega) (by omega)
  obtain ⟨v4, h4, _, _⟩ := pick_ok (k + 1) hb (p := p + 1 + 1 + 1) (n := 5) (by omega) (by omega)
  rw [h1]; simp only [Option.bind_some]
  rw [h2]; simp only [Option.bind_some]
  rw [h3]; simp only [Option.bind_some]
  rw [h4]; simp only [Option.bind_some]
  have j : ∀ (x y : Int) (l : List Pt) (c : Bool) (r : Int), l.length = 4 → p ≤ r → r ≤ p + 8 → ∃ l' q, spec_l92Box.j0 (k + 2) x y l c b r = some (l', q) ∧ p ≤ q ∧ q ≤ p + 10 ∧ l'.length ≤ 12 := by
    intro x y l c r hl h0 h8
    obtain ⟨v5, h5, _, _⟩ := pick_ok k hb (p := r) (n := 3) (by omega) (by omega)
    cases c
    · rw [spec_l92Box.j0, if_neg (by decide), h5]
      simp only [Option.bind_some]
      by_cases e : v5 = 0
      · rw [if_pos e, if_pos (by omega)]; exact ⟨_, _, rfl, by omega, by omega, by simp; omega⟩
      · rw [if_neg e]; exact ⟨_, _, rfl, by omega, by omega, by omega⟩
    · rw [spec_l92Box.j0, if_pos rfl, Option.bind_some, if_pos (by omega), Option.bind_some, if_pos (by simp; omega), Option.bind_some, h5]
      simp only [Option.bind_some]
      by_cases e : v5 = 0
      · rw [if_pos e, if_pos (by simp; omega)]; exact ⟨_, _, rfl, by omega, by omega, by simp; omega⟩
      · rw [if_neg e]; exact ⟨_, _, rfl, by omega, by omega, by simp; omega⟩
  by_cases e : wrap64 (1 + v3) > 1
  · rw [if_pos e]
    obtain ⟨v5, h5, _, _⟩ := pick_ok (k + 1) hb (p := p + 1 + 1 + 1 + 1) (n := 2) (by omega) (by omega)
    rw [h5]; simp only [Option.bind_some]
    exact j _ _ _ _ _ rfl (by omega) (by omega)
  · rw [if_neg e]
    exact j _ _ _ _ _ rfl (by omega) (by omega)
theorem l92Star_l0 {b : List Int} (hb : Bts b) {s : List Pt} (hs : s.length ≤ 12) (n : Nat) : ∀ (i : Nat) (x : List Pt) (p : Int) (k : Nat), i + n = s.length → n < k → x.length ≤ i → 0 ≤ p → p + 2 * n ≤ 100000 →
    ∃ l q, spec_l92Star.l0 k s x (i : Int) b p = some (l, q) ∧ p ≤ q ∧ q ≤ p + 2 * n ∧ l.length ≤ x.length + n := by
  induction n with
  | zero =>
    intro i x p k hi hk _ _ _
    obtain ⟨k, rfl⟩ : ∃ m, k = m + 1 := ⟨k - 1, by omega⟩
    exact ⟨x, p, by rw [spec_l92Star.l0, if_neg (by omega)], by omega, by omega, by omega⟩
  | succ n ih =>
    intro i x p k hi hk hx h0 hp
    obtain ⟨k, rfl⟩ : ∃ m, k = m + 2 := ⟨k - 2, by omega⟩
    have hw : wrap64 ((i : Int) + 1) = ((i + 1 : Nat) : Int) := by rw [pw64 (by omega) (by omega)]; omega
    rw [spec_l92Star.l0, if_pos (by omega)]
    obtain ⟨v1, h1, _, _⟩ := pick_ok k hb (p := p) (n := 3) (by omega) (by omega)
    by_cases e : Int.tmod (i : Int) 4 = 0
    · rw [if_pos e, h1]
      simp only [Option.bind_some]
      rw [if_pos (by omega), if_pos (by omega), hw]
      obtain ⟨l, q, e1, e2, e3, e4⟩ := ih (i + 1) (x ++ [(⟨wrap64 ((wrap64 (1 + v1)) * ((rd_T32 s (i : Int)).f0)), wrap64 ((wrap64 (1 + v1)) * ((rd_T32 s (i : Int)).f1))⟩ : Pt)]) (p + 1) (k + 1) (by omega) (by omega) (by simp; omega) (by omega) (by omega)
      exact ⟨l, q, e1, by omega, by omega, by simp at e4; omega⟩
    · rw [if_neg e, h1]
      simp only [Option.bind_some]
      by_cases e' : v1 = 0
      · obtain ⟨v2, h2, _, _⟩ := pick_ok k hb (p := p + 1) (n := 3) (by omega) (by omega)
        rw [if_pos e', h2]
        simp only [Option.bind_some]
        rw [if_pos (by omega), if_pos (by omega), hw]
        obtain ⟨l, q, e1, e2, e3, e4⟩ := ih (i + 1) (x ++ [(⟨wrap64 ((wrap64 (1 + v2)) * ((rd_T32 s (i : Int)).f0)), wrap64 ((wrap64 (1 + v2)) * ((rd_T32 s (i : Int)).f1))⟩ : Pt)]) (p + 1 + 1) (k + 1) (by omega) (by omega) (by simp; omega) (by omega) (by omega)
        exact ⟨l, q, e1, by omega, by omega, by simp at e4; omega⟩
      · rw [if_neg e', hw]
        obtain ⟨l, q, e1, e2, e3, e4⟩ := ih (i + 1) x (p + 1) (k + 1) (by omega) (by omega) (by omega) (by omega) (by omega)
        exact ⟨l, q, e1, by omega, by omega, by omega⟩
theorem l92Star_ok (k : Nat) {b : List Int} {p : Int} (hb : Bts b) (hp : 0 ≤ p ∧ p ≤ 10000) : ∃ l q, spec_l92Star.f (k + 20) b p = some (l, q) ∧ p ≤ q ∧ q ≤ p + 24 ∧ l.length ≤ 12 := by
  obtain ⟨l, q, e1, e2, e3, e4⟩ := l92Star_l0 hb (s := [(⟨2, 0⟩ : Pt), (⟨2, 1⟩ : Pt), (⟨1, 2⟩ : Pt), (⟨0, 2⟩ : Pt), (⟨(-1), 2⟩ : Pt), (⟨(-2), 1⟩ : Pt), (⟨(-2), 0⟩ : Pt), (⟨(-2), (-1)⟩ : Pt), (⟨(-1), (-2)⟩ : Pt), (⟨0, (-2)⟩ : Pt), (⟨1, (-2)⟩ : Pt), (⟨2, (-1)⟩ : Pt)]) (by decide) 12 0 [] p (k + 20) rfl (by omega) (by simp) (by omega) (by omega)
  exact ⟨l, q, e1, by omega, by omega, by simpa using e4⟩
theorem l92Poly_l0 {b : List Int} (hb : Bts b) {m : Int} (n : Nat) : ∀ (i : Int) (x : List Pt) (p : Int) (k : Nat), i + n = m → n < k → (x.length : Int) ≤ i → m ≤ 12 → 0 ≤ i → 0 ≤ p → p + 5 * n ≤ 100000 →
    ∃ l q, spec_l92Poly.l0 k x m i b p = some (l, q) ∧ p ≤ q ∧ q ≤ p + 5 * n ∧ l.length ≤ x.length + n := by
  induction n with
  | zero =>
    intro i x p k hi hk _ _ _ _ _
    obtain ⟨k, rfl⟩ : ∃ m, k = m + 1 := ⟨k - 1, by omega⟩
    exact ⟨x, p, by rw [spec_l92Poly.l0, if_neg (by omega)], by omega, by omega, by omega⟩
  | succ n ih =>
    intro i x p k hi hk hx hm hi0 h0 hp
    obtain ⟨k, rfl⟩ : ∃ m, k = m + 2 := ⟨k - 2, by omega⟩
    obtain ⟨u, v, r, h1, h2, h3, _⟩ := l91Point_ok k hb (p := p) (by omega)
    rw [spec_l92Poly.l0, if_pos (by omega), h1]
    simp only [Option.bind_some]
    rw [if_pos (by omega), pw64 (by omega) (by omega)]
    obtain ⟨l, q, e1, e2, e3, e4⟩ := ih (i + 1) (x ++ [(⟨u, v⟩ : Pt)]) r (k + 1) (by omega) (by omega) (by simp; omega) (by omega) (by omega) (by omega) (by omega)
    exact ⟨l, q, e1, by omega, by omega, by simp at e4; omega⟩
theorem backL_length (l : List Pt) : (backL l).length = l.length := by cases l <;> simp [backL]
theorem l92Poly_ok (k : Nat) {b : List Int} {p : Int} (hb : Bts b) (hp : 0 ≤ p ∧ p ≤ 1000) : ∃ l q, spec_l92Poly.f (k + 60) b p = some (l, q) ∧ p ≤ q ∧ q ≤ p + 100 ∧ l.length ≤ 12 := by
  unfold spec_l92Poly.f
  obtain ⟨v1, h1, _, _⟩ := pick_ok (k + 59) hb (p := p) (n := 8) (by omega) (by omega)
  rw [h1]; simp only [Option.bind_some]
  have box : ∃ l q, spec_l92Box.f (k + 60) b (p + 1) = some (l, q) ∧ p + 1 ≤ q ∧ q ≤ p + 1 + 10 ∧ l.length ≤ 12 := l92Box_ok (k + 58) hb (by omega)
  obtain ⟨lb, qb, b1, b2, b3, b4⟩ := box
  by_cases e0 : v1 = 0
  · rw [if_pos e0]
    obtain ⟨v2, h2, _, _⟩ := pick_ok (k + 59) hb (p := p + 1) (n := 6) (by omega) (by omega)
    rw [h2]; simp only [Option.bind_some]
    obtain ⟨l, q, e1, e2, e3, e4⟩ := l92Poly_l0 hb (m := v2) v2.toNat 0 [] (p + 1 + 1) (k + 60) (by omega) (by omega) (by simp) (by omega) (by omega) (by omega) (by omega)
    exact ⟨l, q, e1, by omega, by omega, by simp at e4; omega⟩
  · rw [if_neg e0]
    by_cases e1 : v1 = 1
    · rw [if_pos e1, b1]; exact ⟨_, _, rfl, by omega, by omega, b4⟩
    · rw [if_neg e1]
      by_cases e2 : v1 = 2
      · rw [if_pos e2, b1]; exact ⟨_, _, rfl, by omega, by omega, b4⟩
      · rw [if_neg e2]
        by_cases e3 : v1 = 3
        · rw [if_pos e3, b1]; exact ⟨_, _, rfl, by omega, by omega, b4⟩
        · rw [if_neg e3]
          obtain ⟨l, q, s1, s2, s3, s4⟩ := l92Star_ok (k + 40) hb (p := p + 1) (by omega)
          rw [s1]; simp only [Option.bind_some]
          obtain ⟨v5, h5, _, _⟩ := pick_ok (k + 59) hb (p := q) (n := 5) (by omega) (by omega)
          rw [h5]; simp only [Option.bind_some]
          by_cases e5 : v5 = 0
          · rw [if_pos e5, spec_PolyBack_eq _ l (by omega) (by omega)]
            simp only [Option.bind_some]
            refine ⟨_, _, rfl, by omega, by omega, ?_⟩
            split
            · rw [backL_length]; exact s4
            · simp
          · rw [if_neg e5]; exact ⟨_, _, rfl, by omega, by omega, s4⟩
end Go.Proofs.Ytgdhgncdpmalcaa.Pure
namespace Go.Proofs.Ytgdhgncdpmalcaa.Pure
open Go.RowKit Go.Proofs.Ytgdhgncdpmalcaa.Q Go.Proofs.YtgdhgncdpmalcaaW.PrintWords Go.Proofs.YtgdhgncdpmalcaaW.PrintLast Go.Proofs.YtgdhgncdpmalcaaW.PrintMore
theorem l92Split_ok (k : Nat) {b : List Int} {p : Int} (hb : Bts b) (hp : 0 ≤ p ∧ p ≤ 1000) :
    ∃ l i j q, spec_l92Split.f (k + 60) b p = some (l, i, j, q) ∧ p ≤ q ∧ q ≤ p + 110 ∧ l.length ≤ 12 ∧ (0 ≤ i ∧ i ≤ 100) ∧ (0 ≤ j ∧ j ≤ 100) := by
  unfold spec_l92Split.f
  obtain ⟨l, q, e1, e2, e3, hl⟩ := l92Poly_ok k hb hp
  rw [e1]; simp only [Option.bind_some]
  have small : ∀ r, p ≤ r → r ≤ p + 102 → ∃ l' i j q', spec_l92Split.j0 (k + 60) l (l.length : Int) true b r = some (l', i, j, q') ∧ p ≤ q' ∧ q' ≤ p + 110 ∧ l'.length ≤ 12 ∧ (0 ≤ i ∧ i ≤ 100) ∧ (0 ≤ j ∧ j ≤ 100) := by
    intro r h0 h1
    obtain ⟨v1, h1, _, _⟩ := pick_ok (k + 58) hb (p := r) (n := 3) (by omega) (by omega)
    obtain ⟨v2, h2, _, _⟩ := pick_ok (k + 58) hb (p := r + 1) (n := 6) (by omega) (by omega)
    rw [spec_l92Split.j0, if_pos rfl, h1]; simp only [Option.bind_some]
    rw [h2]
    exact ⟨_, _, _, _, rfl, by omega, by omega, hl, by omega, by omega⟩
  by_cases h4 : (l.length : Int) < 4
  · rw [if_pos h4]; exact small q (by omega) (by omega)
  · rw [if_neg h4]
    obtain ⟨v0, h0, _, _⟩ := pick_ok (k + 59) hb (p := q) (n := 16) (by omega) (by omega)
    rw [h0]; simp only [Option.bind_some]
    cases hz : (v0 == 0)
    · obtain ⟨v1, h1, _, _⟩ := pick_ok (k + 58) hb (p := q + 1) (n := (l.length : Int) - 2) (by omega) (by omega)
      obtain ⟨v2, h2, _, _⟩ := pick_ok (k + 58) hb (p := q + 1 + 1) (n := (l.length : Int) - 2 - v1) (by omega) (by omega)
      rw [spec_l92Split.j0, if_neg (by decide), pw64 (x := (l.length : Int) - 2) (by omega) (by omega), h1]; simp only [Option.bind_some]
      rw [pw64 (x := (l.length : Int) - 2 - v1) (by omega) (by omega), h2]; simp only [Option.bind_some]
      rw [pw64 (x := (l.length : Int) - 1) (by omega) (by omega), pw64 (x := v1 + 2) (by omega) (by omega), pw64 (x := v1 + 2 + v2) (by omega) (by omega)]
      refine ⟨_, _, _, _, rfl, by omega, by omega, hl, by omega, ?_⟩
      unfold mn; split <;> omega
    · exact small (q + 1) (by omega) (by omega)
end Go.Proofs.Ytgdhgncdpmalcaa.Pure
namespace Go.Proofs.Ytgdhgncdpmalcaa.Pure
open Go.RowKit Go.Proofs.Ytgdhgncdpmalcaa.Q Go.Proofs.Ytgdhgncdpmalcaa.Ring Go.Proofs.Ytgdhgncdpmalcaa.Geo Go.Proofs.YtgdhgncdpmalcaaW.PrintWords Go.Proofs.YtgdhgncdpmalcaaW.PrintLast Go.Proofs.YtgdhgncdpmalcaaW.PrintMore
set_option linter.unusedVariables false
theorem DrawParcelSplit_ok (k : Nat) (hk : 100 < k) {bs : List Int} (hbs : ∀ x ∈ bs, (Lit.int .u8 x).wf = true) : ∃ l i j, spec_DrawParcelSplit.f k bs = some (l, i, j) ∧ l.length ≤ 12 ∧ (0 ≤ i ∧ i ≤ 100) ∧ (0 ≤ j ∧ j ≤ 100) := by
  unfold spec_DrawParcelSplit.f
  obtain ⟨b, e1, hb⟩ := open_ok hbs
  rw [e1]; simp only [Option.bind_some]
  obtain ⟨k, rfl⟩ : ∃ m, k = m + 60 := ⟨k - 60, by omega⟩
  obtain ⟨l, i, j, q, e2, _, _, hl, hi, hj⟩ := l92Split_ok k hb (p := 0) (by omega)
  rw [e2]
  exact ⟨l, i, j, rfl, hl, hi, hj⟩
theorem same_l0 {l : List Pt} (hl : l.length ≤ 1000) (suf : List Pt) : ∀ (pre : List Pt) (k : Nat), suf.length < k → l = pre ++ suf → laws_samePoints.l0 k l l (pre.length : Int) = some true := by
  induction suf with
  | nil =>
    intro pre k hk he
    obtain ⟨k, rfl⟩ : ∃ m, k = m + 1 := ⟨k - 1, by omega⟩
    rw [laws_samePoints.l0, if_neg (by rw [he]; simp)]
  | cons y suf ih =>
    intro pre k hk he
    obtain ⟨k, rfl⟩ : ∃ m, k = m + 1 := ⟨k - 1, by omega⟩
    simp only [List.length_cons] at hk
    have hlen : l.length = pre.length + suf.length + 1 := by rw [he]; simp; omega
    have er : rd_T32 l (pre.length : Int) = y := by rw [he]; exact rd_midP pre suf y
    rw [laws_samePoints.l0]
    simp only [er, next_midP pre y (by omega), ih (pre ++ [y]) k (by omega) (by rw [he]; simp)]
    rw [if_pos (by omega), if_pos (by omega), if_pos (by omega)]
    simp
theorem same_self {l : List Pt} (hl : l.length ≤ 1000) {k : Nat} (hk : l.length < k) : laws_samePoints.f k l l = some true := by
  unfold laws_samePoints.f
  rw [if_pos rfl]
  exact same_l0 hl l [] k hk rfl
theorem small_pt (m : Nat) (hm : m ≤ maxLen) : ∃ x y : Int, (-6 ≤ x ∧ x ≤ 6) ∧ (-6 ≤ y ∧ y ≤ 6) ∧ ((m : Int) % 13) - 6 = x ∧ wrap64 ((Int.tmod (wrap64 ((m : Int) / 13)) 13) - 6) = y := by
  unfold maxLen at hm
  have e : (m : Int) / 13 = ((m / 13 : Nat) : Int) := by omega
  rw [e, pw64 (x := ((m / 13 : Nat) : Int)) (by omega) (by omega), Int.tmod_eq_emod_of_nonneg (by omega)]
  refine ⟨_, _, by omega, ?_, rfl, rfl⟩
  rw [pw64 (by omega) (by omega)]
  omega
theorem implSplit_eq' {l : List Pt} (hl : l.length ≤ 12) {i j : Int} (hi : 0 ≤ i ∧ i ≤ 100) (hj : 0 ≤ j ∧ j ≤ 100) (k : Nat) (hk : 200 < k) : impl_ParcelSplit.f k l i j = some (splitR l i j) := implSplit_eq k (by omega)
theorem placeP {l : List Pt} (h : okP l = true) {p : Pt} (hp : ptB p = true) : impl_PolyPlace.f l p.f0 p.f1 = some (placeR l p, true) := by
  unfold impl_PolyPlace.f
  have : okS l = true := (okP_iff.1 h).1
  rw [this, show (⟨p.f0, p.f1⟩ : Pt) = p from rfl, hp]; rfl
theorem FnSplitPlace : laws_FnSplitPlace.Pure := by
  intro bs ms hms _ hbs hms2 _ _
  obtain ⟨K, hK⟩ : ∃ K : Nat, K = 1000 := ⟨_, rfl⟩
  refine ⟨K + 3, ?_⟩
  have big : laws_FnSplitPlace.j0 (K + 3) bs ms true = some true := by rw [laws_FnSplitPlace.j0, if_pos rfl]
  have go : laws_FnSplitPlace.j0 (K + 3) bs ms false = some true := by
    obtain ⟨l, i, j, e1, hl, hi, hj⟩ := DrawParcelSplit_ok (K + 2) (by omega) hbs
    rw [laws_FnSplitPlace.j0, if_neg (by decide), e1]
    simp only [Option.bind_some]
    rw [implSplit_eq' hl hi hj _ (by omega), specSplit_eq (by omega) (by omega) (by omega) _ (by omega)]
    simp only [Option.bind_some, bne_self_eq_false, Bool.false_eq_true, if_false]
    have ls := splitR_len l i j
    rw [same_self (by omega) (by omega)]
    simp only [Option.bind_some, if_true]
    rw [same_self (by omega) (by omega)]
    simp only [Option.bind_some, if_true]
    rw [laws_FnSplitPlace.j1]
    by_cases c : okP l = true ∧ 0 ≤ i ∧ i < j ∧ j < (l.length : Int)
    · obtain ⟨a, rfl⟩ : ∃ a : Nat, i = a := ⟨i.toNat, by omega⟩
      obtain ⟨b, rfl⟩ : ∃ b : Nat, j = b := ⟨j.toNat, by omega⟩
      have es : splitR l a b = splitN l a b := by unfold splitR; rw [if_pos c, Int.toNat_natCast, Int.toNat_natCast]
      by_cases d : okP (leftL l a b) = true ∧ okP (rightL l a b) = true
      · have et : splitR l a b = (leftL l a b, rightL l a b, true) := by rw [es]; unfold splitN; rw [d.1, d.2]; rfl
        rw [et]
        obtain ⟨x, y, hx, hy, ex, ey⟩ := small_pt ms.length hms2
        dsimp only
        rw [ex, ey]
        clear ex ey
        have pb : ptB ⟨x, y⟩ = true := ptB_iff.2 (by dsimp only; omega)
        have pp : PVP ⟨x, y⟩ := PV_iff.2 (by dsimp only; omega)
        obtain ⟨u, v, w, eu, ev, ew, cs⟩ := split_places (p := ⟨x, y⟩) (show a < b by omega) (show b < l.length by omega) c.1 d.1 d.2 pp
        have p1 := placeP d.1 pb; have p2 := placeP d.2 pb; have p3 := placeP c.1 pb
        rw [eu] at p1; rw [ev] at p2; rw [ew] at p3
        dsimp only at p1 p2 p3
        rw [p1, p2, p3]
        simp only [Option.bind_some, if_true, Bool.not_true, Bool.false_eq_true, if_false]
        rw [if_pos (show laws_FnSplitPlace.cs u v w from cs)]
      · have et : splitR l a b = ([], [], false) := by rw [es]; unfold splitN; rw [if_neg (by rw [Bool.and_eq_true]; exact d)]
        rw [et]
        dsimp only
        rw [if_pos (show (!false) = true from rfl), if_pos (show (false == false) = true from rfl), same_self (by simp) (by simp)]
        simp only [Option.bind_some, if_true]
    · have es : splitR l i j = ([], [], false) := by unfold splitR; rw [if_neg c]
      rw [es]
      dsimp only
      rw [if_pos (show (!false) = true from rfl), if_pos (show (false == false) = true from rfl), same_self (by simp) (by simp)]
      simp only [Option.bind_some, if_true]
  unfold laws_FnSplitPlace.f
  by_cases h1 : (bs.length : Int) > 1048576
  · rw [if_pos h1]; exact big
  · rw [if_neg h1]
    by_cases h2 : (ms.length : Int) > 1048576
    · rw [decide_eq_true h2]; exact big
    · rw [decide_eq_false h2]; exact go
end Go.Proofs.Ytgdhgncdpmalcaa.Pure
