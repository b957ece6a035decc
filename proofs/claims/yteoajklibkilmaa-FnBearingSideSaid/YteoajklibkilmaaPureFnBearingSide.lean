/- What is ahead within a half turn lies to the left. -/
import Derived.Test.YteoajklibkilmaaPointsSide
import Derived.Test.YteoajklibkilmaaGcd
import Derived.Test.YteoajklibkilmaaReader
import Derived.Test.YteoajklibkilmaaQ37
import Derived.Test.YteoajklibkilmaaQ38
import Derived.Test.YteoajklibkilmaaQ39
import Derived.Test.YteoajklibkilmaaQ40
import Derived.Test.YteoajklibkilmaaQ41
import Derived.Test.YteoajklibkilmaaQ42
import Derived.Test.YteoajklibkilmaaQ43
import Derived.Test.YteoajklibkilmaaQ44
import Derived.Test.YteoajklibkilmaaQ45
import Derived.Test.YteoajklibkilmaaQ46
import Derived.Test.YteoajklibkilmaaQ6
namespace Go.Proofs.Yteoajklibkilmaa.Pure
open Go.RowKit Go.Proofs.Yteoajklibkilmaa.Q Go.Proofs.YteoajklibkilmaaW.PrintWords Go.Proofs.YteoajklibkilmaaW.PrintLast

theorem l2StepOk_eq (x y : Int) : spec_l2StepOk.f x y = some (decide (-20000 ≤ x ∧ x ≤ 20000 ∧ -20000 ≤ y ∧ y ≤ 20000)) := by
  simp only [spec_l2StepOk.f, spec_l6In_eq, Option.bind_some]
  by_cases h : (-20000 ≤ x ∧ x ≤ 20000)
  · simp [h]
  · rw [if_neg (by simpa using h)]; congr 1; symm; rw [decide_eq_false_iff_not]; omega

/-- A bearing. -/
def isB (x y : Int) : Bool := decide ((-20000 ≤ x ∧ x ≤ 20000 ∧ -20000 ≤ y ∧ y ≤ 20000) ∧ Int.gcd x y = 1)
theorem impl_isBearing_eq (k : Nat) (hk : 20000 < k) (x y : Int) : impl_isBearing.f k x y = some (isB x y) := by
  simp only [impl_isBearing.f, impl_stepValid.f, impl_pairOf.f, Option.bind_some]
  rw [impl_inRange_eq _ _ _ (by omega) (by omega)]
  simp only [Option.bind_some, isB]
  by_cases h : -20000 ≤ x ∧ x ≤ 20000 ∧ -20000 ≤ y ∧ y ≤ 20000
  · rw [if_pos (by simpa using h), impl_gcd_eq k hk x y (by omega) (by omega)]
    simp only [Option.bind_some]
    congr 1
    rw [Bool.eq_iff_iff, beq_iff_eq, decide_eq_true_eq]
    omega
  · rw [if_neg (by simpa using h)]; congr 1; symm; rw [decide_eq_false_iff_not]; omega
theorem spec_l3Bearing_eq (k : Nat) (hk : 20000 < k) (x y : Int) : spec_l3Bearing.f k x y = some (isB x y) := by
  simp only [spec_l3Bearing.f, l2StepOk_eq, Option.bind_some, isB, spec_l1Common.f]
  by_cases h : -20000 ≤ x ∧ x ≤ 20000 ∧ -20000 ≤ y ∧ y ≤ 20000
  · rw [if_pos (by simpa using h), l1Size_eq (x := x) (by omega) (by omega), l1Size_eq (x := y) (by omega) (by omega)]
    simp only [Option.bind_some]
    rw [spec_l1Common_eq k _ _ (by omega) (by omega) (by omega), gcd_natAbs]
    simp only [Option.bind_some]
    congr 1
    rw [Bool.eq_iff_iff, beq_iff_eq, decide_eq_true_eq]
    omega
  · rw [if_neg (by simpa using h)]; congr 1; symm; rw [decide_eq_false_iff_not]; omega
theorem isB_iff {x y : Int} : isB x y = true ↔ (-20000 ≤ x ∧ x ≤ 20000 ∧ -20000 ≤ y ∧ y ≤ 20000) ∧ Int.gcd x y = 1 := by simp [isB]

/-- The quarter of a step. -/
def qtr (x y : Int) : Int := if 0 ≤ x ∧ 0 < y then 0 else if 0 < x then 1 else if y < 0 then 2 else 3
theorem impl_quarterOf_eq (k : Nat) (x y : Int) : impl_quarterOf.f (k + 1) x y = some (qtr x y) := by
  simp only [impl_quarterOf.f, impl_quarterOf.j0, qtr]
  repeat' split
  all_goals first | rfl | (exfalso; simp_all; omega) | (simp_all; done) | (simp_all; omega)
theorem spec_l3Quarter_eq (k : Nat) (x y : Int) : spec_l3Quarter.f (k + 1) x y = some (qtr x y) := by
  simp only [spec_l3Quarter.f, spec_l3Quarter.j0, qtr]
  repeat' split
  all_goals first | rfl | (exfalso; simp_all; omega) | (simp_all; done) | (simp_all; omega)

/-- Whether the first bearing is ahead of the second one. -/
def lessB (a b c d : Int) : Bool := decide (isB a b = true ∧ isB c d = true ∧ (qtr a b < qtr c d ∨ qtr a b = qtr c d ∧ a * d - b * c < 0))
theorem cross_eq {a b c d : Int} (h : isB a b = true) (h' : isB c d = true) : wrap64 (wrap64 (a * d) - wrap64 (b * c)) = a * d - b * c := by
  have h1 := (isB_iff.1 h).1; have h2 := (isB_iff.1 h').1
  have b1 := mul_bd (x := a) (y := d) (m := 20000) (n := 20000) (by omega) (by omega) (by omega) (by omega)
  have b2 := mul_bd (x := b) (y := c) (m := 20000) (n := 20000) (by omega) (by omega) (by omega) (by omega)
  rw [w64 (x := a * d) (by omega) (by omega), w64 (x := b * c) (by omega) (by omega), w64 (by omega) (by omega)]
theorem impl_BearingLess_eq (k : Nat) (hk : 20001 < k) (a b c d : Int) : impl_BearingLess.f k a b c d = some (lessB a b c d) := by
  obtain ⟨k, rfl⟩ : ∃ m, k = m + 1 := ⟨k - 1, by omega⟩
  obtain ⟨j, hj⟩ : ∃ j, k = j + 1 := ⟨k - 1, by omega⟩
  simp only [impl_BearingLess.f, impl_isBearing_eq (k + 1) (by omega), Option.bind_some, impl_BearingLess.j0, impl_BearingLess_1.f, impl_BearingLess_2.f, impl_pairOf.f, impl_pair_cross.f]
  subst hj
  simp only [impl_quarterOf_eq, Option.bind_some]
  unfold lessB
  by_cases h : isB a b = true
  · by_cases h' : isB c d = true
    · rw [if_pos h, if_neg (by simp [h'])]
      by_cases e : qtr a b = qtr c d
      · rw [if_pos e, Int.mul_comm c b, cross_eq h h']; congr 1; rw [decide_eq_decide]; exact ⟨fun q => ⟨h, h', .inr ⟨e, q⟩⟩, fun q => by rcases q.2.2 with q | q; omega; exact q.2⟩
      · rw [if_neg e]; congr 1; rw [decide_eq_decide]; exact ⟨fun q => ⟨h, h', .inl q⟩, fun q => by rcases q.2.2 with q | q; exact q; exact absurd q.1 e⟩
    · rw [if_pos h, if_pos (by simp [h'])]; congr 1; symm; rw [decide_eq_false_iff_not]; simp [h']
  · rw [if_neg h, if_pos trivial]; congr 1; symm; rw [decide_eq_false_iff_not]; simp [h]
theorem spec_BearingLess_eq (k : Nat) (hk : 20001 < k) (a b c d : Int) : spec_BearingLess.f k a b c d = some (lessB a b c d) := by
  obtain ⟨k, rfl⟩ : ∃ m, k = m + 1 := ⟨k - 1, by omega⟩
  obtain ⟨j, hj⟩ : ∃ j, k = j + 1 := ⟨k - 1, by omega⟩
  simp only [spec_BearingLess.f, spec_l3Bearing_eq (k + 1) (by omega), Option.bind_some, spec_BearingLess.j0, spec_l2Cross.f]
  subst hj
  simp only [spec_l3Quarter_eq, Option.bind_some]
  unfold lessB
  by_cases h : isB a b = true
  · by_cases h' : isB c d = true
    · rw [if_pos h, if_neg (by simp [h'])]
      by_cases e : qtr a b = qtr c d
      · rw [if_pos e, cross_eq h h']; congr 1; rw [decide_eq_decide]; exact ⟨fun q => ⟨h, h', .inr ⟨e, q⟩⟩, fun q => by rcases q.2.2 with q | q; omega; exact q.2⟩
      · rw [if_neg e]; congr 1; rw [decide_eq_decide]; exact ⟨fun q => ⟨h, h', .inl q⟩, fun q => by rcases q.2.2 with q | q; exact q; exact absurd q.1 e⟩
    · rw [if_pos h, if_pos (by simp [h'])]; congr 1; symm; rw [decide_eq_false_iff_not]; simp [h']
  · rw [if_neg h, if_pos trivial]; congr 1; symm; rw [decide_eq_false_iff_not]; simp [h]

theorem spec_BearingOf_ok (k : Nat) (hk : 20001 < k) (x y : Int) (hx : -20000 ≤ x ∧ x ≤ 20000) (hy : -20000 ≤ y ∧ y ≤ 20000) : ∃ u v t, spec_BearingOf.f k x y = some (u, v, t) := by
  obtain ⟨k, rfl⟩ : ∃ m, k = m + 1 := ⟨k - 1, by omega⟩
  simp only [spec_BearingOf.f, l2StepOk_eq, Option.bind_some]
  rw [if_pos (by simp; omega)]
  simp only [spec_BearingOf.j0, spec_l1Common.f]
  by_cases h : (x == 0 && (y == 0)) = true
  · rw [if_pos h]; exact ⟨_, _, _, rfl⟩
  · rw [if_neg h, l1Size_eq (x := x) (by omega) (by omega), l1Size_eq (x := y) (by omega) (by omega)]
    simp only [Option.bind_some]
    rw [spec_l1Common_eq k _ _ (by omega) (by omega) (by omega), gcd_natAbs]
    simp only [Option.bind_some]
    have h0 : ¬ ((Int.gcd x y : Nat) : Int) = 0 := by
      intro e
      have : Int.gcd x y = 0 := by omega
      obtain ⟨rfl, rfl⟩ := Int.gcd_eq_zero_iff.1 this
      simp at h
    rw [if_neg h0]
    exact ⟨_, _, _, rfl⟩

theorem l91Bearing_ok (k : Nat) (hk : 20001 < k) {b : List Int} {p : Int} (hb : Bts b) (hp : 0 ≤ p ∧ p ≤ 100000) :
    ∃ x y q, spec_l91Bearing.f k b p = some (x, y, q) ∧ 0 ≤ q ∧ q ≤ p + 3 := by
  obtain ⟨j, rfl⟩ : ∃ m, k = m + 1 := ⟨k - 1, by omega⟩
  unfold spec_l91Bearing.f
  obtain ⟨v1, h1, _, _⟩ := pick_ok j hb (p := p) (n := 12) (by omega) (by omega)
  obtain ⟨v2, h2, _, _⟩ := pick_ok j hb (p := p + 1) (n := 3) (by omega) (by omega)
  obtain ⟨v3, h3, _, _⟩ := pick_ok j hb (p := p + 1) (n := 4) (by omega) (by omega)
  obtain ⟨v4, h4, _, _⟩ := pick_ok j hb (p := p + 1) (n := 13) (by omega) (by omega)
  obtain ⟨v5, h5, _, _⟩ := pick_ok j hb (p := p + 1 + 1) (n := 13) (by omega) (by omega)
  rw [h1]; simp only [Option.bind_some]
  have four : ∃ x y q, (some (([(⟨0, 1⟩ : S24), (⟨1, 0⟩ : S24), (⟨0, (-1)⟩ : S24), (⟨(-1), 0⟩ : S24)] : List (S24)) : List (S24))).bind (fun y_ => ((spec_l6Rd_pick.f (j + 1) b (p + 1) 4).bind fun bt => (if 0 ≤ bt.1 then (if bt.1 < (y_.length : Int) then (some ((rd_T24 y_ bt.1).f0, (rd_T24 y_ bt.1).f1, bt.2)) else (none)) else (none)))) = some (x, y, q) ∧ 0 ≤ q ∧ q ≤ p + 3 := by
    rw [h3]; simp only [Option.bind_some]
    rw [if_pos (by omega), if_pos (by simp; omega)]
    exact ⟨_, _, _, rfl, by omega, by omega⟩
  by_cases e0 : v1 = 0
  · rw [if_pos e0, h2]
    simp only [Option.bind_some]
    rw [if_pos (by omega), if_pos (by simp; omega)]
    exact ⟨_, _, _, rfl, by omega, by omega⟩
  · rw [if_neg e0]
    by_cases e1 : v1 = 1
    · rw [if_pos e1]; exact four
    · rw [if_neg e1]
      by_cases e2 : v1 = 2
      · rw [if_pos e2]; exact four
      · rw [if_neg e2]
        by_cases e3 : v1 = 3
        · rw [if_pos e3]; exact four
        · rw [if_neg e3, h4]; simp only [Option.bind_some]
          rw [h5]; simp only [Option.bind_some]
          rw [rw64 (x := v4 - 6) (by omega) (by omega), rw64 (x := v5 - 6) (by omega) (by omega)]
          obtain ⟨u, v, t, h⟩ := spec_BearingOf_ok (j + 1) (by omega) (v4 - 6) (v5 - 6) (by omega) (by omega)
          rw [h]; simp only [Option.bind_some]
          split
          · exact ⟨_, _, _, rfl, by omega, by omega⟩
          · exact ⟨_, _, _, rfl, by omega, by omega⟩

theorem pos_sum {p q r s : Int} (hp : 0 < p) (hq : 0 < q) (hrs : (r ≤ 0 ∧ 0 ≤ s) ∨ (0 ≤ r ∧ s ≤ 0)) : 0 < p * q - r * s := by
  have h1 := Int.mul_pos hp hq
  rcases hrs with ⟨h2, h3⟩ | ⟨h2, h3⟩
  · have := Int.mul_nonneg (show 0 ≤ -r by omega) h3; rw [Int.neg_mul] at this; omega
  · have := Int.mul_nonneg h2 (show 0 ≤ -s by omega); rw [Int.mul_neg] at this; omega

theorem ahead_left {a b c d : Int} (h : lessB a b c d = true) (hq : ¬ (qtr c d > qtr a b + 1)) : 0 < c * b - d * a := by
  unfold lessB at h
  rw [decide_eq_true_eq] at h
  obtain ⟨h1, h2, h3⟩ := h
  rcases h3 with h3 | ⟨_, h3⟩
  · have hz : ¬ (a = 0 ∧ b = 0) := fun e => by have := (isB_iff.1 h1).2; rw [e.1, e.2] at this; exact absurd this (by decide)
    have hz' : ¬ (c = 0 ∧ d = 0) := fun e => by have := (isB_iff.1 h2).2; rw [e.1, e.2] at this; exact absurd this (by decide)
    unfold qtr at h3 hq
    split at h3
    · split at h3
      · omega
      · split at h3
        · exact pos_sum (by omega) (by omega) (by omega)
        · simp_all; split at hq <;> omega
    · split at h3
      · split at h3
        · omega
        · split at h3
          · omega
          · split at h3
            · have := pos_sum (p := -d) (q := a) (r := -c) (s := b) (by omega) (by omega) (by omega)
              grind
            · simp_all <;> omega
      · split at h3
        · split at h3
          · omega
          · split at h3
            · omega
            · split at h3
              · omega
              · have := pos_sum (p := -c) (q := -b) (r := -d) (s := -a) (by omega) (by omega) (by omega)
                grind
        · split at h3
          · omega
          · split at h3
            · omega
            · split at h3 <;> omega
  · grind

theorem FnBearingSide : laws_FnBearingSide.Pure := by
  intro l0 _ _ hl
  refine ⟨20010, ?_⟩
  unfold laws_FnBearingSide.f
  split
  · rfl
  · have hdr : ∃ a b c d, spec_DrawBearingLess.f 20010 l0 = some (a, b, c, d) := by
      unfold spec_DrawBearingLess.f
      obtain ⟨b, h0, hb⟩ := open_ok hl
      rw [h0]; simp only [Option.bind_some]
      obtain ⟨x1, y1, q1, h1, _, _⟩ := l91Bearing_ok 20010 (by decide) hb (p := 0) (by omega)
      rw [h1]; simp only [Option.bind_some]
      obtain ⟨x2, y2, q2, h2, _, _⟩ := l91Bearing_ok 20010 (by decide) hb (p := q1) (by omega)
      rw [h2]; exact ⟨_, _, _, _, rfl⟩
    obtain ⟨a, b, c, d, hd⟩ := hdr
    rw [hd]; simp only [Option.bind_some, impl_BearingLess_eq 20010 (by decide), spec_BearingLess_eq 20010 (by decide)]
    rw [if_neg (by simp)]
    have hj : laws_FnBearingSide.j0 (20009 + 1) (lessB a b c d) (lessB a b c d) (!lessB a b c d) a b c d = some true := by
      simp only [laws_FnBearingSide.j0]
      by_cases h : lessB a b c d = true
      · rw [if_neg (by simp [h])]
        have hh := h
        unfold lessB at hh
        rw [decide_eq_true_eq] at hh
        obtain ⟨h1, h2, _⟩ := hh
        have q1 : impl_BearingQuarter.f 20009 a b = some (qtr a b, true) := by
          unfold impl_BearingQuarter.f; rw [impl_isBearing_eq 20009 (by decide)]; simp only [Option.bind_some]; rw [if_pos h1, impl_quarterOf_eq 20008]; rfl
        have q2 : impl_BearingQuarter.f 20009 c d = some (qtr c d, true) := by
          unfold impl_BearingQuarter.f; rw [impl_isBearing_eq 20009 (by decide)]; simp only [Option.bind_some]; rw [if_pos h2, impl_quarterOf_eq 20008]; rfl
        rw [q1]; simp only [Option.bind_some]
        rw [q2]; simp only [Option.bind_some, if_true]
        have hb : 0 ≤ qtr a b ∧ qtr a b ≤ 3 := by unfold qtr; repeat' split <;> omega
        rw [w64 (x := qtr a b + 1) (by omega) (by omega)]
        have fin : (impl_PointSide.f 20009 0 0 c d a b).bind (fun bt => (if bt.2 = true then (some (bt.1 == 1)) else (some true))) = some true ∨ qtr c d > qtr a b + 1 := by
          by_cases hq : qtr c d > qtr a b + 1
          · exact .inr hq
          · left
            rw [impl_PointSide_eq 20008]; simp only [Option.bind_some]
            have hl := ahead_left h hq
            by_cases hv : PV 0 0 = true ∧ PV c d = true ∧ PV a b = true
            · rw [sideR_yes hv.1 hv.2.1 hv.2.2, if_pos rfl]
              have e : crs 0 0 c d a b = c * b - d * a := by unfold crs; simp
              rw [e]; unfold sgn; rw [if_neg (by omega), if_pos (by omega)]; rfl
            · rw [sideR_no hv, if_neg (by simp)]
        rcases fin with fin | fin
        · rw [fin]; simp
        · rw [if_pos fin]
      · rw [if_pos (by simp [h])]; simp
    exact hj
end Go.Proofs.Yteoajklibkilmaa.Pure
