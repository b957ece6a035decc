/- What lies between splits the distance. -/
import Derived.Test.YteoajklibkilmaaPointsOn
import Derived.Test.YteoajklibkilmaaPointsGaps
import Derived.Test.YteoajklibkilmaaPointsFar
import Derived.Test.YteoajklibkilmaaDrawThree
import Derived.Test.YteoajklibkilmaaQ33
import Derived.Test.YteoajklibkilmaaQ34
namespace Go.Proofs.Yteoajklibkilmaa.Pure
open Go.RowKit Go.Proofs.Yteoajklibkilmaa.Q Go.Proofs.YteoajklibkilmaaW.PrintWords Go.Proofs.YteoajklibkilmaaW.PrintLast

theorem gcd_mul_abs (t p q : Int) (h : Int.gcd p q = 1) : Int.gcd (t * p) (t * q) = t.natAbs := by
  rw [Int.gcd_mul_left, h, Nat.mul_one]

/-- A vector along another one is a whole multiple of its primitive vector. -/
theorem along {p q r s : Int} (hg : Int.gcd p q = 1) (h : p * s = q * r) : ∃ t, r = t * p ∧ s = t * q := by
  have hd : p ∣ q * r := ⟨s, h.symm⟩
  have hr : p ∣ r := by
    have h1 : p.natAbs ∣ q.natAbs * r.natAbs := by rw [← Int.natAbs_mul]; exact Int.natAbs_dvd_natAbs.2 hd
    have h2 : Nat.Coprime p.natAbs q.natAbs := hg
    exact Int.natAbs_dvd_natAbs.1 (h2.dvd_of_dvd_mul_left h1)
  obtain ⟨t, ht⟩ := hr
  by_cases hp : p = 0
  · subst hp
    have hr0 : r = 0 := by rw [ht]; omega
    have hq : q.natAbs = 1 := by simpa [Int.gcd] using hg
    have : q = 1 ∨ q = -1 := by omega
    rcases this with rfl | rfl
    · exact ⟨s, by omega, by omega⟩
    · exact ⟨-s, by omega, by omega⟩
  · refine ⟨t, by rw [ht, Int.mul_comm], ?_⟩
    rw [ht] at h
    have h2 : p * s = p * (t * q) := by rw [h]; grind
    exact Int.eq_of_mul_eq_mul_left hp h2

theorem prim {p q : Int} (h : ¬ (p = 0 ∧ q = 0)) : ∃ g p' q' : Int, 0 < g ∧ p = g * p' ∧ q = g * q' ∧ Int.gcd p' q' = 1 ∧ (Int.gcd p q : Int) = g := by
  have hg : 0 < Int.gcd p q := by
    rcases Nat.eq_zero_or_pos (Int.gcd p q) with h0 | h0
    · exact absurd (Int.gcd_eq_zero_iff.1 h0) h
    · exact h0
  obtain ⟨p', hp⟩ := Int.gcd_dvd_left p q
  obtain ⟨q', hq⟩ := Int.gcd_dvd_right p q
  refine ⟨Int.gcd p q, p', q', by omega, hp, hq, ?_, rfl⟩
  have h1 : Int.gcd p q = Int.gcd (Int.gcd p q * p') (Int.gcd p q * q') := by rw [← hp, ← hq]
  rw [Int.gcd_mul_left] at h1
  have h2 : ((Int.gcd p q : Int)).natAbs = Int.gcd p q := Int.natAbs_natCast _
  rw [h2] at h1
  have h3 : Int.gcd p q * 1 = Int.gcd p q * Int.gcd p' q' := by omega
  exact (Nat.eq_of_mul_eq_mul_left hg h3).symm

theorem between_t {g t p : Int} (hg : 0 < g) (hp : p ≠ 0) (h0 : min 0 (g * p) ≤ t * p) (h1 : t * p ≤ max 0 (g * p)) : 0 ≤ t ∧ t ≤ g := by
  rcases Int.lt_or_lt_of_ne hp with hn | hn
  · have hgp : g * p < 0 := Int.mul_neg_of_pos_of_neg hg hn
    rw [Int.min_eq_right (by omega)] at h0
    rw [Int.max_eq_left (by omega)] at h1
    constructor
    · rcases Int.lt_or_le t 0 with ht | ht
      · have := Int.mul_pos_of_neg_of_neg ht hn; omega
      · exact ht
    · rcases Int.lt_or_le g t with ht | ht
      · have : (t - g) * p < 0 := Int.mul_neg_of_pos_of_neg (by omega) hn
        rw [Int.sub_mul] at this; omega
      · exact ht
  · have hgp : 0 < g * p := Int.mul_pos hg hn
    rw [Int.min_eq_left (by omega)] at h0
    rw [Int.max_eq_right (by omega)] at h1
    constructor
    · rcases Int.lt_or_le t 0 with ht | ht
      · have := Int.mul_neg_of_neg_of_pos ht hn; omega
      · exact ht
    · rcases Int.lt_or_le g t with ht | ht
      · have : 0 < (t - g) * p := Int.mul_pos (by omega) hn
        rw [Int.sub_mul] at this; omega
      · exact ht

theorem gcd_split {p q r s : Int} (h : p * s = q * r) (hr : min 0 p ≤ r ∧ r ≤ max 0 p) (hs : min 0 q ≤ s ∧ s ≤ max 0 q) :
    Int.gcd r s + Int.gcd (p - r) (q - s) = Int.gcd p q := by
  by_cases h0 : p = 0 ∧ q = 0
  · obtain ⟨rfl, rfl⟩ := h0
    have : r = 0 := by omega
    have : s = 0 := by omega
    subst_vars; rfl
  · obtain ⟨g, p', q', hg, rfl, rfl, hc, he⟩ := prim h0
    have h1 : p' * s = q' * r := by
      have : g * (p' * s) = g * (q' * r) := by grind
      exact Int.eq_of_mul_eq_mul_left (by omega) this
    obtain ⟨t, rfl, rfl⟩ := along hc h1
    have ht : 0 ≤ t ∧ t ≤ g := by
      by_cases hp : p' = 0
      · have hq : q' ≠ 0 := fun e => by subst hp; subst e; simp at hc
        exact between_t hg hq hs.1 hs.2
      · exact between_t hg hp hr.1 hr.2
    rw [← Int.sub_mul, ← Int.sub_mul, gcd_mul_abs _ _ _ hc, gcd_mul_abs _ _ _ hc]
    omega

theorem gaps_split {a b c d e f : Int} (h : PV a b = true) (h' : PV c d = true) (h'' : PV e f = true) (ho : onP a b c d e f) : gapsR a b e f + gapsR e f c d = gapsR a b c d := by
  unfold gapsR
  rw [if_pos ⟨h, h''⟩, if_pos ⟨h'', h'⟩, if_pos ⟨h, h'⟩]
  obtain ⟨h0, h1, h2, h3, h4⟩ := ho
  unfold crs at h0
  have := gcd_split (p := c - a) (q := d - b) (r := e - a) (s := f - b) (by omega) (by omega) (by omega)
  rw [show c - a - (e - a) = c - e by omega, show d - b - (f - b) = d - f by omega] at this
  omega

theorem FnPointOn : laws_FnPointOn.Pure := by
  intro l0 _ _ hl
  refine ⟨20005, ?_⟩
  unfold laws_FnPointOn.f
  split
  · rfl
  · have hdr : ∃ a b c d e f, spec_DrawPointOn.f 20005 l0 = some (a, b, c, d, e, f) := by
      unfold spec_DrawPointOn.f
      obtain ⟨b, h0, hb⟩ := open_ok hl
      rw [h0]; simp only [Option.bind_some]
      obtain ⟨x1, y1, x2, y2, x3, y3, q, h⟩ := l91Three_ok 20004 hb (p := 0) (by omega)
      rw [h]; exact ⟨_, _, _, _, _, _, rfl⟩
    obtain ⟨a, b, c, d, e, f, hd⟩ := hdr
    rw [hd]; simp only [Option.bind_some, impl_PointOn_eq 20004, spec_PointOn_eq]
    rw [if_neg (by simp)]
    have hj : laws_FnPointOn.j0 (20004 + 1) (onR a b c d e f) (onR a b c d e f) (!onR a b c d e f) a b c d e f = some true := by
      simp only [laws_FnPointOn.j0]
      by_cases h : onR a b c d e f = true
      · have hh := h
        unfold onR at hh
        rw [decide_eq_true_eq] at hh
        obtain ⟨h1, h2, h3, ho⟩ := hh
        have h' : onR c d a b e f = true := by
          unfold onR; rw [decide_eq_true_eq]
          refine ⟨h2, h1, h3, ?_, ?_⟩
          · have := ho.1; unfold crs at this ⊢; grind
          · have := ho.2; omega
        rw [if_neg (by simp [h]), impl_PointSide_eq 20003, sideR_yes h1 h2 h3]
        simp only [Option.bind_some, if_true]
        rw [if_pos (sgn_zero.2 ho.1), impl_PointOn_eq 20003, h']
        simp only [Option.bind_some, if_true]
        rw [impl_PointGaps_eq 20004 (by decide), impl_PointGaps_eq 20004 (by decide), impl_PointGaps_eq 20004 (by decide)]
        simp only [Option.bind_some]
        have hs := gaps_split h1 h2 h3 ho
        have hbd : 0 ≤ gapsR a b c d ∧ gapsR a b c d ≤ 40000 := by
          unfold gapsR
          rw [if_pos ⟨h1, h2⟩]
          have := PV_iff.1 h1; have := PV_iff.1 h2
          refine ⟨Int.natCast_nonneg _, ?_⟩
          have e0 : Int.gcd (c - a) (d - b) = Nat.gcd (c - a).natAbs (d - b).natAbs := rfl
          by_cases hz : (c - a).natAbs = 0
          · rw [hz, Nat.gcd_zero_left] at e0; omega
          · have := Nat.gcd_le_left (d - b).natAbs (show 0 < (c - a).natAbs by omega); omega
        rw [hs, w64 (by omega) (by omega), if_pos rfl, impl_PointFar_eq 20003, impl_PointFar_eq 20003]
        simp only [Option.bind_some]
        congr 1
        rw [decide_eq_true_eq]
        unfold farR
        rw [if_pos ⟨h1, h3⟩, if_pos ⟨h1, h2⟩]
        have e1 : (e - a).natAbs ≤ (c - a).natAbs := by have := ho.2; omega
        have e2 : (f - b).natAbs ≤ (d - b).natAbs := by have := ho.2; omega
        have g1 := Nat.mul_le_mul e1 e1
        have g2 := Nat.mul_le_mul e2 e2
        rw [← Int.natAbs_mul_self' (e - a), ← Int.natAbs_mul_self' (c - a), ← Int.natAbs_mul_self' (f - b), ← Int.natAbs_mul_self' (d - b)]
        omega
      · rw [if_pos (by simp [h])]; simp
    exact hj
end Go.Proofs.Yteoajklibkilmaa.Pure
