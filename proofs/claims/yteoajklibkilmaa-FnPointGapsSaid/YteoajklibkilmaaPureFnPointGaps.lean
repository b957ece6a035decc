/- Whole points are counted. -/
import Derived.Test.YteoajklibkilmaaPoints
import Derived.Test.YteoajklibkilmaaDrawPoints
import Derived.Test.YteoajklibkilmaaQ42
namespace Go.Proofs.Yteoajklibkilmaa.Pure
open Go.RowKit Go.Proofs.Yteoajklibkilmaa.Q Go.Proofs.YteoajklibkilmaaW.PrintWords Go.Proofs.YteoajklibkilmaaW.PrintLast

/-- Whether a point other than the first one lies on the line. -/
def hit (a b c d x y : Int) : Bool := decide (¬ (x = a ∧ y = b) ∧ onP a b c d x y)
/-- So many of m points in a column, from y on. -/
def colN (a b c d x : Int) : Nat → Int → Nat
  | 0, _ => 0
  | m + 1, y => (if hit a b c d x y = true then 1 else 0) + colN a b c d x m (y + 1)
/-- So many in m columns from x on. -/
def boxN (a b c d : Int) (h : Nat) (y : Int) : Nat → Int → Nat
  | 0, _ => 0
  | m + 1, x => colN a b c d x h y + boxN a b c d h y m (x + 1)
theorem onP_shift (a b c d x y : Int) : onP a b c d x y ↔ onP 0 0 (c - a) (d - b) (x - a) (y - b) := by
  unfold onP crs
  simp only [Int.sub_zero]
  constructor
  · rintro ⟨h0, h1⟩; exact ⟨h0, by omega⟩
  · rintro ⟨h0, h1⟩; exact ⟨h0, by omega⟩
theorem hit_shift (a b c d x y : Int) : hit a b c d x y = hit 0 0 (c - a) (d - b) (x - a) (y - b) := by
  unfold hit
  rw [decide_eq_decide, onP_shift]
  have : (x = a ∧ y = b) ↔ (x - a = 0 ∧ y - b = 0) := by omega
  rw [this]
theorem colN_shift (a b c d x : Int) (m : Nat) : ∀ y, colN a b c d x m y = colN 0 0 (c - a) (d - b) (x - a) m (y - b) := by
  induction m with
  | zero => intro y; rfl
  | succ m ih => intro y; simp only [colN]; rw [hit_shift, ih, show y + 1 - b = y - b + 1 by omega]
theorem boxN_shift (a b c d : Int) (h : Nat) (y : Int) (m : Nat) : ∀ x, boxN a b c d h y m x = boxN 0 0 (c - a) (d - b) h (y - b) m (x - a) := by
  induction m with
  | zero => intro x; rfl
  | succ m ih => intro x; simp only [boxN]; rw [colN_shift, ih, show x + 1 - a = x - a + 1 by omega]
theorem colN_le (a b c d x : Int) (m : Nat) : ∀ y, colN a b c d x m y ≤ m := by
  induction m with
  | zero => intro y; exact Nat.le_refl _
  | succ m ih => intro y; simp only [colN]; have := ih (y + 1); split <;> omega
theorem boxN_le (a b c d : Int) (h : Nat) (y : Int) (m : Nat) : ∀ x, boxN a b c d h y m x ≤ m * h := by
  induction m with
  | zero => intro x; simp [boxN]
  | succ m ih => intro x; simp only [boxN]; have := ih (x + 1); have := colN_le a b c d x h y; rw [Nat.succ_mul]; omega

/-- The count for all small steps. -/
def smallOk : Bool := (List.range 21).all fun i => (List.range 21).all fun j =>
  let p : Int := (i : Int) - 10; let q : Int := (j : Int) - 10
  boxN 0 0 p q (q.natAbs + 1) (min 0 q) (p.natAbs + 1) (min 0 p) == Int.gcd p q
theorem smallOk_true : smallOk = true := by decide +kernel
theorem small {p q : Int} (hp : -10 ≤ p ∧ p ≤ 10) (hq : -10 ≤ q ∧ q ≤ 10) : boxN 0 0 p q (q.natAbs + 1) (min 0 q) (p.natAbs + 1) (min 0 p) = Int.gcd p q := by
  have h := smallOk_true
  unfold smallOk at h
  rw [List.all_eq_true] at h
  have h1 := h (p + 10).toNat (by rw [List.mem_range]; omega)
  rw [List.all_eq_true] at h1
  have h2 := h1 (q + 10).toNat (by rw [List.mem_range]; omega)
  have e1 : (((p + 10).toNat : Nat) : Int) - 10 = p := by omega
  have e2 : (((q + 10).toNat : Nat) : Int) - 10 = q := by omega
  simp only [e1, e2, beq_iff_eq] at h2
  exact h2

theorem inner {a b c d x g : Int} {R : Int → Option Bool} {K B : Nat} (h : PV a b = true) (h' : PV c d = true) (hx : min a c ≤ x ∧ x ≤ max a c) (hB : B ≤ 1000000000000)
    (hl : ∀ (k : Nat) (n : Int), K ≤ k → 0 ≤ n → n ≤ B → laws_FnPointGaps.l0 k g n (x + 1) a b c d = R n) (m : Nat) :
    ∀ (y n : Int) (k : Nat), K + m + 1 ≤ k → y + m = max b d + 1 → min b d ≤ y → 0 ≤ n → n + m ≤ B →
      laws_FnPointGaps.l1 k g n x y a b c d = R (n + colN a b c d x m y) := by
  have hA := PV_iff.1 h; have hC := PV_iff.1 h'
  induction m with
  | zero =>
    intro y n k hk hy hy0 hn hn'
    obtain ⟨k, rfl⟩ : ∃ m, k = m + 1 := ⟨k - 1, by omega⟩
    simp only [laws_FnPointGaps.l1, mx_eq]
    rw [if_neg (by omega), w64 (by omega) (by omega), hl k n (by omega) hn (by omega)]
    simp [colN]
  | succ m ih =>
    intro y n k hk hy hy0 hn hn'
    obtain ⟨k, rfl⟩ : ∃ m, k = m + 1 := ⟨k - 1, by omega⟩
    obtain ⟨k, rfl⟩ : ∃ m, k = m + 1 := ⟨k - 1, by omega⟩
    have hV : PV x y = true := PV_iff.2 (by omega)
    rw [laws_FnPointGaps.l1]
    simp only [mx_eq]
    rw [if_pos (by omega), w64 (x := y + 1) (by omega) (by omega), w64 (x := n + 1) (by omega) (by omega), impl_PointOn_eq k]
    simp only [Option.bind_some, colN]
    have hh : hit a b c d x y = (decide (¬ (x = a ∧ y = b)) && onR a b c d x y) := by
      unfold hit onR
      rw [← Bool.decide_and, decide_eq_decide]
      simp only [h, h', hV, true_and]
    by_cases e : x = a ∧ y = b
    · rw [if_neg (by simp [e]), ih (y + 1) n (k + 1) (by omega) (by omega) (by omega) hn (by omega)]
      have : hit a b c d x y = false := by rw [hh]; simp [e]
      rw [this]; simp
    · rw [if_pos (by simp; omega)]
      by_cases o : onR a b c d x y = true
      · rw [if_pos o, ih (y + 1) (n + 1) (k + 1) (by omega) (by omega) (by omega) (by omega) (by omega)]
        have : hit a b c d x y = true := by rw [hh]; simp [o]; omega
        rw [this, if_pos rfl]; congr 1; omega
      · rw [if_neg o, ih (y + 1) n (k + 1) (by omega) (by omega) (by omega) hn (by omega)]
        have : hit a b c d x y = false := by rw [hh]; simp [o]
        rw [this]; simp
theorem outer {a b c d g : Int} {B : Nat} (h : PV a b = true) (h' : PV c d = true) (hB : B ≤ 1000000000000) (H : Nat) (hH : min b d + H = max b d + 1) (m : Nat) :
    ∀ (x n : Int) (k : Nat), m * (H + 2) + 1 ≤ k → x + m = max a c + 1 → min a c ≤ x → 0 ≤ n → n + (m * H : Nat) ≤ B →
      laws_FnPointGaps.l0 k g n x a b c d = some (n + boxN a b c d H (min b d) m x == g) := by
  induction m with
  | zero =>
    intro x n k hk hx hx0 hn hn'
    obtain ⟨k, rfl⟩ : ∃ m, k = m + 1 := ⟨k - 1, by omega⟩
    simp only [laws_FnPointGaps.l0, mx_eq]
    rw [if_neg (by omega)]; simp [boxN]
  | succ m ih =>
    intro x n k hk hx hx0 hn hn'
    obtain ⟨k, rfl⟩ : ∃ m, k = m + 1 := ⟨k - 1, by omega⟩
    simp only [laws_FnPointGaps.l0, mx_eq, mn_eq]
    rw [Nat.succ_mul] at hk hn'
    rw [if_pos (by omega), inner (R := fun n' => some (n' + boxN a b c d H (min b d) m (x + 1) == g)) (K := m * (H + 2) + 1) (B := B - m * H) h h' (by omega) (by omega)
      (fun k' n' hk' h0 h1 => ih (x + 1) n' k' hk' (by omega) (by omega) h0 (by omega)) H (min b d) n k (by omega) hH (by omega) hn (by omega)]
    simp only [boxN]
    congr 2
    omega

theorem FnPointGaps : laws_FnPointGaps.Pure := by
  intro l0 _ _ hl
  refine ⟨20005, ?_⟩
  unfold laws_FnPointGaps.f
  split
  · rfl
  · have hdr : ∃ a b c d, spec_DrawPointGaps.f 20005 l0 = some (a, b, c, d) := by
      unfold spec_DrawPointGaps.f
      obtain ⟨a, b, c, d, h⟩ := DrawPointStep_ok 20004 hl
      rw [h]; exact ⟨_, _, _, _, rfl⟩
    obtain ⟨a, b, c, d, hd⟩ := hdr
    rw [hd]; simp only [Option.bind_some, impl_PointGaps_eq 20005 (by decide), spec_PointGaps_eq 20005 (by decide), if_true]
    have hj : laws_FnPointGaps.j0 (20004 + 1) (gapsR a b c d) (gapsR a b c d) (decide (gapsR a b c d < 0)) a b c d = some true := by
      simp only [laws_FnPointGaps.j0]
      by_cases h : PV a b = true ∧ PV c d = true
      · obtain ⟨h1, h2⟩ := h
        have hA := PV_iff.1 h1; have hC := PV_iff.1 h2
        rw [if_neg (by rw [gapsR_yes h1 h2]; simp), impl_PointFar_eq 20003]
        simp only [Option.bind_some]
        rw [farR_yes h1 h2]
        by_cases hf : (c - a) * (c - a) + (d - b) * (d - b) > 100
        · rw [if_pos hf, impl_PointGaps_eq 20004 (by decide)]
          simp only [Option.bind_some]
          have e : gapsR c d a b = gapsR a b c d := by
            rw [gapsR_yes h2 h1, gapsR_yes h1 h2, show a - c = -(c - a) by omega, show b - d = -(d - b) by omega, Int.neg_gcd, Int.gcd_neg]
          rw [e, if_pos rfl]
          congr 1
          rw [decide_eq_true_eq, gapsR_yes h1 h2]
          rcases Nat.eq_zero_or_pos (Int.gcd (c - a) (d - b)) with h0 | h0
          · obtain ⟨z1, z2⟩ := Int.gcd_eq_zero_iff.1 h0
            rw [z1, z2] at hf; omega
          · omega
        · rw [if_neg hf]
          have sqle : ∀ z : Int, z * z ≤ 100 → -10 ≤ z ∧ z ≤ 10 := by
            intro z hz
            rw [← Int.natAbs_mul_self' z] at hz
            have hz' : z.natAbs * z.natAbs ≤ 100 := by omega
            have : z.natAbs ≤ 10 := by
              rcases Nat.lt_or_ge 10 z.natAbs with h | h
              · have := Nat.mul_le_mul (show 11 ≤ z.natAbs from h) (show 11 ≤ z.natAbs from h); omega
              · exact h
            omega
          have n1 : 0 ≤ (c - a) * (c - a) := by rw [← Int.natAbs_mul_self' (c - a)]; exact Int.natCast_nonneg _
          have n2 : 0 ≤ (d - b) * (d - b) := by rw [← Int.natAbs_mul_self' (d - b)]; exact Int.natCast_nonneg _
          have hp := sqle (c - a) (by omega)
          have hq := sqle (d - b) (by omega)
          have hs := small hp hq
          have hmul : ((c - a).natAbs + 1) * ((d - b).natAbs + 1 + 2) ≤ 11 * 13 := Nat.mul_le_mul (by omega) (by omega)
          have hmul2 : ((c - a).natAbs + 1) * ((d - b).natAbs + 1) ≤ 11 * 11 := Nat.mul_le_mul (by omega) (by omega)
          rw [mn_eq, outer (B := 1000) h1 h2 (by omega) ((d - b).natAbs + 1) (by omega) ((c - a).natAbs + 1) (min a c) 0 20004 (by omega) (by omega) (by omega) (by omega) (by omega)]
          rw [boxN_shift, show min b d - b = min 0 (d - b) by omega, show min a c - a = min 0 (c - a) by omega, hs, gapsR_yes h1 h2]
          simp
      · rw [if_pos (by rw [gapsR_no h]; decide)]; simp
    exact hj
end Go.Proofs.Yteoajklibkilmaa.Pure
