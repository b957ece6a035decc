/- Closed forms of the program's and the reference's functions of points (chapter 2), as told by the printed functions. -/
import Derived.Test.YteoajklibkilmaaQ10
import Derived.Test.YteoajklibkilmaaQ13
import Derived.Test.YteoajklibkilmaaQ15
import Derived.Test.YteoajklibkilmaaQ18
import Derived.Test.YteoajklibkilmaaQ2
import Derived.Test.YteoajklibkilmaaQ20
import Derived.Test.YteoajklibkilmaaQ23
import Derived.Test.YteoajklibkilmaaQ25
import Derived.Test.YteoajklibkilmaaQ3
import Derived.Test.YteoajklibkilmaaQ5
import Derived.Test.YteoajklibkilmaaQ6
import Derived.Test.YteoajklibkilmaaQ9
namespace Go.Proofs.Yteoajklibkilmaa.Pure
open Go.RowKit Go.Proofs.Yteoajklibkilmaa.Q Go.Proofs.YteoajklibkilmaaW.PrintWords Go.Proofs.YteoajklibkilmaaW.PrintLast Go.Proofs.YteoajklibkilmaaW.PrintMore

theorem w64 {x : Int} (h0 : -9223372036854775808 ≤ x) (h1 : x ≤ 9223372036854775807) : wrap64 x = x := by
  unfold wrap64; omega

/-- A valid point. -/
def PV (x y : Int) : Bool := decide (-10000 ≤ x ∧ x ≤ 10000 ∧ -10000 ≤ y ∧ y ≤ 10000)
theorem PV_iff {x y : Int} : PV x y = true ↔ (-10000 ≤ x ∧ x ≤ 10000 ∧ -10000 ≤ y ∧ y ≤ 10000) := by simp [PV]

theorem spec_l6In_eq (a b c : Int) : spec_l6In.f a b c = some (decide (b ≤ a ∧ a ≤ c)) := by
  unfold spec_l6In.f
  by_cases h : a ≥ b
  · rw [if_pos h]; congr 1; rw [decide_eq_decide]; omega
  · rw [if_neg h]; congr 1; symm; rw [decide_eq_false_iff_not]; omega

theorem spec_PointValid_eq (x y : Int) : spec_PointValid.f x y = some (PV x y) := by
  simp only [spec_PointValid.f, spec_l6In_eq, Option.bind_some, PV]
  by_cases h : (-10000 ≤ x ∧ x ≤ 10000)
  · simp [h]
  · rw [if_neg (by simpa using h)]; congr 1; symm; rw [decide_eq_false_iff_not]; omega

theorem impl_within_eq (a m : Int) (h0 : 0 ≤ m) (h1 : m ≤ 9223372036854775807) : impl_within.f a m = some (decide (-m ≤ a ∧ a ≤ m)) := by
  unfold impl_within.f
  rw [w64 (by omega) (by omega)]
  by_cases h : -m ≤ a
  · rw [if_pos h]; congr 1; rw [decide_eq_decide]; omega
  · rw [if_neg h]; congr 1; symm; rw [decide_eq_false_iff_not]; omega

theorem impl_inRange_eq (x y m : Int) (h0 : 0 ≤ m) (h1 : m ≤ 9223372036854775807) : impl_pair_inRange.f x y m = some (decide (-m ≤ x ∧ x ≤ m ∧ -m ≤ y ∧ y ≤ m)) := by
  simp only [impl_pair_inRange.f, impl_within_eq _ _ h0 h1, Option.bind_some]
  by_cases h : (-m ≤ x ∧ x ≤ m)
  · simp [h]
  · rw [if_neg (by simpa using h)]; congr 1; symm; rw [decide_eq_false_iff_not]; omega

theorem impl_PointValid_eq (x y : Int) : impl_PointValid.f x y = some (PV x y) := by
  simp only [impl_PointValid.f, impl_pairOf.f, Option.bind_some]
  rw [impl_inRange_eq _ _ _ (by omega) (by omega)]
  rfl

/-- What PointStep answers. -/
def stepR (a b c d : Int) : Int × Int × Bool := if PV a b = true ∧ PV c d = true then (c - a, d - b, true) else (0, 0, false)
theorem stepR_yes {a b c d : Int} (h : PV a b = true) (h' : PV c d = true) : stepR a b c d = (c - a, d - b, true) := if_pos ⟨h, h'⟩
theorem stepR_no {a b c d : Int} (h : ¬ (PV a b = true ∧ PV c d = true)) : stepR a b c d = (0, 0, false) := if_neg h

theorem spec_PointStep_eq (a b c d : Int) : spec_PointStep.f a b c d = some (stepR a b c d) := by
  simp only [spec_PointStep.f, spec_PointValid_eq, Option.bind_some, spec_l2Step.f]
  by_cases h : PV a b = true
  · by_cases h' : PV c d = true
    · rw [if_pos h, if_pos h', stepR_yes h h']
      have := PV_iff.1 h; have := PV_iff.1 h'
      rw [w64 (by omega) (by omega), w64 (by omega) (by omega)]
    · rw [if_pos h, if_neg h', stepR_no (by simp [h'])]
  · rw [if_neg h, stepR_no (by simp [h])]

theorem impl_PointStep_eq (k : Nat) (a b c d : Int) : impl_PointStep.f (k + 1) a b c d = some (stepR a b c d) := by
  simp only [impl_PointStep.f, impl_PointValid_eq, Option.bind_some, impl_PointStep.j0, impl_pairOf.f, impl_pair_minus.f, impl_pair_point.f]
  by_cases h : PV a b = true
  · by_cases h' : PV c d = true
    · rw [if_pos h, if_neg (by simp [h']), stepR_yes h h']
      have := PV_iff.1 h; have := PV_iff.1 h'
      rw [w64 (by omega) (by omega), w64 (by omega) (by omega)]
    · rw [if_pos h, if_pos (by simp [h']), stepR_no (by simp [h'])]
  · rw [if_neg h, if_pos trivial, stepR_no (by simp [h])]

theorem mul_bd {x y m n : Int} (hx : -m ≤ x ∧ x ≤ m) (hy : -n ≤ y ∧ y ≤ n) (hm : 0 ≤ m) (hn : 0 ≤ n) : -(m * n) ≤ x * y ∧ x * y ≤ m * n := by
  have h1 : x.natAbs ≤ m.toNat := by omega
  have h2 : y.natAbs ≤ n.toNat := by omega
  have h3 : (x * y).natAbs ≤ m.toNat * n.toNat := by rw [Int.natAbs_mul]; exact Nat.mul_le_mul h1 h2
  have h4 : ((m.toNat * n.toNat : Nat) : Int) = m * n := by rw [Int.natCast_mul, Int.toNat_of_nonneg hm, Int.toNat_of_nonneg hn]
  omega

/-- What PointFar answers. -/
def farR (a b c d : Int) : Int := if PV a b = true ∧ PV c d = true then (c - a) * (c - a) + (d - b) * (d - b) else -1
theorem sq_bd {x m : Int} (hx : -m ≤ x ∧ x ≤ m) (hm : 0 ≤ m) : 0 ≤ x * x ∧ x * x ≤ m * m := ⟨by rw [← Int.natAbs_mul_self' x]; exact Int.natCast_nonneg _, (mul_bd hx hx hm hm).2⟩

theorem spec_PointFar_eq (a b c d : Int) : spec_PointFar.f a b c d = some (farR a b c d) := by
  simp only [spec_PointFar.f, spec_PointStep_eq, Option.bind_some, farR]
  by_cases h : PV a b = true ∧ PV c d = true
  · rw [stepR_yes h.1 h.2, if_pos rfl, if_pos h]
    have := PV_iff.1 h.1; have := PV_iff.1 h.2
    have h1 := sq_bd (x := c - a) (m := 20000) (by omega) (by omega)
    have h2 := sq_bd (x := d - b) (m := 20000) (by omega) (by omega)
    simp only
    rw [w64 (x := (c - a) * (c - a)) (by omega) (by omega), w64 (x := (d - b) * (d - b)) (by omega) (by omega), w64 (by omega) (by omega)]
  · rw [stepR_no h, if_neg (by simp), if_neg h]

theorem impl_PointFar_eq (k : Nat) (a b c d : Int) : impl_PointFar.f (k + 1) a b c d = some (farR a b c d) := by
  simp only [impl_PointFar.f, impl_PointStep_eq, Option.bind_some, farR, impl_pairOf.f, impl_pair_square.f]
  by_cases h : PV a b = true ∧ PV c d = true
  · rw [stepR_yes h.1 h.2, if_pos rfl, if_pos h]
    have := PV_iff.1 h.1; have := PV_iff.1 h.2
    have h1 := sq_bd (x := c - a) (m := 20000) (by omega) (by omega)
    have h2 := sq_bd (x := d - b) (m := 20000) (by omega) (by omega)
    simp only
    rw [w64 (x := (c - a) * (c - a)) (by omega) (by omega), w64 (x := (d - b) * (d - b)) (by omega) (by omega), w64 (by omega) (by omega)]
  · rw [stepR_no h, if_neg (by simp), if_neg h]

/-- The cross product of the steps from the first point to the others. -/
def crs (a b c d e f : Int) : Int := (c - a) * (f - b) - (d - b) * (e - a)
def sgn (x : Int) : Int := if x < 0 then -1 else if x > 0 then 1 else 0
theorem crs_bd {a b c d e f : Int} (h : PV a b = true) (h' : PV c d = true) (h'' : PV e f = true) : -800000000 ≤ crs a b c d e f ∧ crs a b c d e f ≤ 800000000 := by
  have := PV_iff.1 h; have := PV_iff.1 h'; have := PV_iff.1 h''
  have h1 := mul_bd (x := c - a) (y := f - b) (m := 20000) (n := 20000) (by omega) (by omega) (by omega) (by omega)
  have h2 := mul_bd (x := d - b) (y := e - a) (m := 20000) (n := 20000) (by omega) (by omega) (by omega) (by omega)
  unfold crs; omega

/-- What PointSide answers. -/
def sideR (a b c d e f : Int) : Int × Bool := if PV a b = true ∧ PV c d = true ∧ PV e f = true then (sgn (crs a b c d e f), true) else (0, false)
theorem sideR_yes {a b c d e f : Int} (h : PV a b = true) (h' : PV c d = true) (h'' : PV e f = true) : sideR a b c d e f = (sgn (crs a b c d e f), true) := if_pos ⟨h, h', h''⟩
theorem sideR_no {a b c d e f : Int} (h : ¬ (PV a b = true ∧ PV c d = true ∧ PV e f = true)) : sideR a b c d e f = (0, false) := if_neg h

theorem l1Sign_eq (x : Int) : spec_l1Sign.f x = some (sgn x) := by
  unfold spec_l1Sign.f sgn mx mn
  congr 1
  repeat' split
  all_goals omega
theorem signInt_eq (x : Int) : impl_signInt.f x = some (sgn x) := by
  unfold impl_signInt.f sgn
  repeat' split
  all_goals rfl

theorem spec_l2Step_eq {a b c d : Int} (h : PV a b = true) (h' : PV c d = true) : spec_l2Step.f a b c d = some (c - a, d - b) := by
  have := PV_iff.1 h; have := PV_iff.1 h'
  unfold spec_l2Step.f
  rw [w64 (by omega) (by omega), w64 (by omega) (by omega)]

theorem spec_cross_eq {a b c d e f : Int} (h : PV a b = true) (h' : PV c d = true) (h'' : PV e f = true) : spec_l2Cross.f (c - a) (d - b) (e - a) (f - b) = some (crs a b c d e f) := by
  have := PV_iff.1 h; have := PV_iff.1 h'; have := PV_iff.1 h''
  have h1 := mul_bd (x := c - a) (y := f - b) (m := 20000) (n := 20000) (by omega) (by omega) (by omega) (by omega)
  have h2 := mul_bd (x := d - b) (y := e - a) (m := 20000) (n := 20000) (by omega) (by omega) (by omega) (by omega)
  unfold spec_l2Cross.f crs
  rw [w64 (x := (c - a) * (f - b)) (by omega) (by omega), w64 (x := (d - b) * (e - a)) (by omega) (by omega), w64 (by omega) (by omega)]

theorem impl_cross_eq {a b c d e f : Int} (h : PV a b = true) (h' : PV c d = true) (h'' : PV e f = true) : impl_pair_cross.f (c - a) (d - b) (e - a) (f - b) = some (crs a b c d e f) := by
  have := PV_iff.1 h; have := PV_iff.1 h'; have := PV_iff.1 h''
  have h1 := mul_bd (x := c - a) (y := f - b) (m := 20000) (n := 20000) (by omega) (by omega) (by omega) (by omega)
  have h2 := mul_bd (x := d - b) (y := e - a) (m := 20000) (n := 20000) (by omega) (by omega) (by omega) (by omega)
  unfold impl_pair_cross.f crs
  rw [Int.mul_comm (e - a) (d - b), w64 (x := (c - a) * (f - b)) (by omega) (by omega), w64 (x := (d - b) * (e - a)) (by omega) (by omega), w64 (by omega) (by omega)]

theorem spec_PointSide_eq (k : Nat) (a b c d e f : Int) : spec_PointSide.f (k + 1) a b c d e f = some (sideR a b c d e f) := by
  simp only [spec_PointSide.f, spec_PointValid_eq, Option.bind_some, spec_PointSide.j0]
  by_cases h : PV a b = true
  · by_cases h' : PV c d = true
    · by_cases h'' : PV e f = true
      · rw [if_pos h, if_pos h', if_neg (by simp [h'']), spec_l2Step_eq h h', spec_l2Step_eq h h'']
        simp only [Option.bind_some, spec_cross_eq h h' h'', l1Sign_eq, sideR_yes h h' h'']
      · rw [if_pos h, if_pos h', if_pos (by simp [h'']), sideR_no (by simp [h''])]
    · rw [if_pos h, if_neg h', if_pos trivial, sideR_no (by simp [h'])]
  · rw [if_neg h, if_pos trivial, sideR_no (by simp [h])]

theorem impl_PointSide_eq (k : Nat) (a b c d e f : Int) : impl_PointSide.f (k + 1) a b c d e f = some (sideR a b c d e f) := by
  simp only [impl_PointSide.f, impl_PointValid_eq, Option.bind_some, impl_PointSide.j0, impl_pairOf.f, impl_pair_minus.f]
  by_cases h : PV a b = true
  · by_cases h' : PV c d = true
    · by_cases h'' : PV e f = true
      · rw [if_pos h, if_pos h', if_neg (by simp [h''])]
        have := PV_iff.1 h; have := PV_iff.1 h'; have := PV_iff.1 h''
        rw [w64 (x := c - a) (by omega) (by omega), w64 (x := d - b) (by omega) (by omega), w64 (x := e - a) (by omega) (by omega), w64 (x := f - b) (by omega) (by omega)]
        simp only [impl_cross_eq h h' h'', Option.bind_some, signInt_eq, sideR_yes h h' h'']
      · rw [if_pos h, if_pos h', if_pos (by simp [h'']), sideR_no (by simp [h''])]
    · rw [if_pos h, if_neg h', if_pos trivial, sideR_no (by simp [h'])]
  · rw [if_neg h, if_pos trivial, sideR_no (by simp [h])]

theorem sgn_zero {x : Int} : sgn x = 0 ↔ x = 0 := by
  unfold sgn
  repeat' split
  all_goals omega

/-- What PointOn answers. -/
def onP (a b c d e f : Int) : Prop := crs a b c d e f = 0 ∧ min a c ≤ e ∧ e ≤ max a c ∧ min b d ≤ f ∧ f ≤ max b d
instance (a b c d e f : Int) : Decidable (onP a b c d e f) := by unfold onP; infer_instance
def onR (a b c d e f : Int) : Bool := decide (PV a b = true ∧ PV c d = true ∧ PV e f = true ∧ onP a b c d e f)
theorem mx_eq (a b : Int) : mx a b = max a b := by unfold mx; split <;> omega
theorem mn_eq (a b : Int) : mn a b = min a b := by unfold mn; split <;> omega

theorem spec_l2On_eq {a b c d e f : Int} (h : PV a b = true) (h' : PV c d = true) (h'' : PV e f = true) : spec_l2On.f a b c d e f = some (decide (onP a b c d e f)) := by
  unfold spec_l2On.f
  rw [spec_l2Step_eq h h', spec_l2Step_eq h h'']
  simp only [Option.bind_some, spec_cross_eq h h' h'', spec_l6In_eq, mx_eq, mn_eq]
  by_cases h0 : crs a b c d e f = 0
  · rw [if_pos h0]
    by_cases h1 : min a c ≤ e ∧ e ≤ max a c
    · rw [if_pos (by simpa using h1)]; congr 1; rw [decide_eq_decide]; unfold onP; omega
    · rw [if_neg (by simpa using h1)]; congr 1; symm; rw [decide_eq_false_iff_not]; unfold onP; omega
  · rw [if_neg h0]; congr 1; symm; rw [decide_eq_false_iff_not]; unfold onP; omega

theorem spec_PointOn_eq (a b c d e f : Int) : spec_PointOn.f a b c d e f = some (onR a b c d e f) := by
  simp only [spec_PointOn.f, spec_PointValid_eq, Option.bind_some, onR]
  by_cases h : PV a b = true
  · by_cases h' : PV c d = true
    · by_cases h'' : PV e f = true
      · rw [if_pos h, if_pos h', if_pos h'', spec_l2On_eq h h' h'']
        simp [h, h', h'']
      · rw [if_pos h, if_pos h', if_neg h'']; simp [h'']
    · rw [if_pos h, if_neg h']; simp [h']
  · rw [if_neg h]; simp [h]

theorem impl_between_eq (a b c : Int) : impl_between.f a b c = some (decide (min a b ≤ c ∧ c ≤ max a b)) := by
  unfold impl_between.f
  rw [mx_eq, mn_eq]
  by_cases h : min a b ≤ c
  · rw [if_pos h]; congr 1; rw [decide_eq_decide]; omega
  · rw [if_neg h]; congr 1; symm; rw [decide_eq_false_iff_not]; omega

theorem impl_PointOn_eq (k : Nat) (a b c d e f : Int) : impl_PointOn.f (k + 1) a b c d e f = some (onR a b c d e f) := by
  simp only [impl_PointOn.f, impl_PointSide_eq, Option.bind_some, impl_PointOn.j0, impl_between_eq, onR]
  by_cases h : PV a b = true ∧ PV c d = true ∧ PV e f = true
  · rw [sideR_yes h.1 h.2.1 h.2.2, if_pos rfl]
    by_cases h0 : crs a b c d e f = 0
    · rw [if_neg (by simp [sgn_zero.2 h0])]
      by_cases h1 : min a c ≤ e ∧ e ≤ max a c
      · rw [if_pos (by simpa using h1)]; congr 1; rw [decide_eq_decide]
        constructor
        · intro hh; exact ⟨h.1, h.2.1, h.2.2, h0, by omega, by omega, by omega, by omega⟩
        · rintro ⟨_, _, _, _, _, _, h5, h6⟩; exact ⟨h5, h6⟩
      · rw [if_neg (by simpa using h1)]; congr 1; symm; rw [decide_eq_false_iff_not]; unfold onP; omega
    · rw [if_pos (by simpa [sgn_zero] using h0)]; congr 1; symm; rw [decide_eq_false_iff_not]; unfold onP; omega
  · rw [sideR_no h, if_neg (by simp), if_pos trivial]; congr 1; symm; rw [decide_eq_false_iff_not]
    rintro ⟨h1, h2, h3, _⟩; exact h ⟨h1, h2, h3⟩

/-! The greatest common divisor. -/
theorem gcd_step (a b : Int) (ha : 0 ≤ a) (hb : 0 ≤ b) : Int.gcd b (a % b) = Int.gcd a b := by
  obtain ⟨m, rfl⟩ : ∃ m : Nat, a = m := ⟨a.toNat, by omega⟩
  obtain ⟨n, rfl⟩ : ∃ n : Nat, b = n := ⟨b.toNat, by omega⟩
  have e : ((m : Int) % (n : Int)) = ((m % n : Nat) : Int) := by simp
  rw [e, Int.gcd_natCast_natCast, Int.gcd_natCast_natCast, Nat.gcd_comm n, ← Nat.gcd_rec, Nat.gcd_comm]
theorem spec_l1Common_eq (k : Nat) : ∀ (a b : Int), 0 ≤ a → 0 ≤ b → b.toNat < k → spec_l1Common.l0 k a b = some (Int.gcd a b : Int) := by
  induction k with
  | zero => intro a b _ _ h; omega
  | succ k ih =>
    intro a b ha hb hk
    simp only [spec_l1Common.l0]
    by_cases h : b = 0
    · rw [if_pos h, h, Int.gcd_zero_right]; congr 1; omega
    · rw [if_neg h, Int.tmod_eq_emod_of_nonneg ha]
      have h1 := Int.emod_nonneg a h
      have h2 := Int.emod_lt_of_pos a (show 0 < b by omega)
      rw [ih b (a % b) hb h1 (by omega)]
      rw [gcd_step a b ha hb]
theorem impl_gcd_l0 (k : Nat) : ∀ (a b : Int), 0 ≤ a → 0 ≤ b → b.toNat < k → impl_gcdInt.l0 k a b = some (Int.gcd a b : Int) := by
  induction k with
  | zero => intro a b _ _ h; omega
  | succ k ih =>
    intro a b ha hb hk
    simp only [impl_gcdInt.l0]
    by_cases h : b = 0
    · rw [if_pos h, h, Int.gcd_zero_right]; congr 1; omega
    · rw [if_neg h, Int.tmod_eq_emod_of_nonneg ha]
      have h1 := Int.emod_nonneg a h
      have h2 := Int.emod_lt_of_pos a (show 0 < b by omega)
      rw [ih b (a % b) hb h1 (by omega)]
      rw [gcd_step a b ha hb]
theorem l1Size_eq {x : Int} (h0 : -9223372036854775807 ≤ x) (h1 : x ≤ 9223372036854775807) : spec_l1Size.f x = some (x.natAbs : Int) := by
  unfold spec_l1Size.f
  rw [w64 (by omega) (by omega), mx_eq]; congr 1; omega
theorem absInt_eq {x : Int} (h0 : -9223372036854775807 ≤ x) (h1 : x ≤ 9223372036854775807) : impl_absInt.f x = some (x.natAbs : Int) := by
  unfold impl_absInt.f
  by_cases h : x < 0
  · rw [if_pos h, w64 (by omega) (by omega)]; congr 1; omega
  · rw [if_neg h]; congr 1; omega

/-- What PointGaps answers. -/
def gapsR (a b c d : Int) : Int := if PV a b = true ∧ PV c d = true then (Int.gcd (c - a) (d - b) : Int) else -1
theorem gcd_natAbs (x y : Int) : Int.gcd (x.natAbs : Int) (y.natAbs : Int) = Int.gcd x y := by simp [Int.gcd]
theorem spec_PointGaps_eq (k : Nat) (hk : 20000 < k) (a b c d : Int) : spec_PointGaps.f k a b c d = some (gapsR a b c d) := by
  simp only [spec_PointGaps.f, spec_PointStep_eq, Option.bind_some, gapsR, spec_l1Common.f]
  by_cases h : PV a b = true ∧ PV c d = true
  · rw [stepR_yes h.1 h.2, if_pos rfl, if_pos h]
    have := PV_iff.1 h.1; have := PV_iff.1 h.2
    rw [l1Size_eq (x := c - a) (by omega) (by omega), l1Size_eq (x := d - b) (by omega) (by omega)]
    simp only [Option.bind_some]
    rw [spec_l1Common_eq k _ _ (by omega) (by omega) (by omega), gcd_natAbs]; rfl
  · rw [stepR_no h, if_neg (by simp), if_neg h]
theorem impl_gcd_eq (k : Nat) (hk : 20000 < k) (x y : Int) (hx : -20000 ≤ x ∧ x ≤ 20000) (hy : -20000 ≤ y ∧ y ≤ 20000) : impl_pair_gcd.f k x y = some (Int.gcd x y : Int) := by
  simp only [impl_pair_gcd.f, impl_gcdInt.f]
  rw [absInt_eq (x := x) (by omega) (by omega), absInt_eq (x := y) (by omega) (by omega)]
  simp only [Option.bind_some]
  rw [impl_gcd_l0 k _ _ (by omega) (by omega) (by omega), gcd_natAbs]; rfl
theorem impl_PointGaps_eq (k : Nat) (hk : 20000 < k) (a b c d : Int) : impl_PointGaps.f k a b c d = some (gapsR a b c d) := by
  obtain ⟨k, rfl⟩ : ∃ m, k = m + 1 := ⟨k - 1, by omega⟩
  simp only [impl_PointGaps.f, impl_PointStep_eq, Option.bind_some, gapsR, impl_pairOf.f]
  by_cases h : PV a b = true ∧ PV c d = true
  · rw [stepR_yes h.1 h.2, if_pos rfl, if_pos h]
    have := PV_iff.1 h.1; have := PV_iff.1 h.2
    rw [impl_gcd_eq (k + 1) (by omega) (c - a) (d - b) (by omega) (by omega)]; rfl
  · rw [stepR_no h, if_neg (by simp), if_neg h]
theorem farR_yes {a b c d : Int} (h : PV a b = true) (h' : PV c d = true) : farR a b c d = (c - a) * (c - a) + (d - b) * (d - b) := if_pos ⟨h, h'⟩
theorem farR_no {a b c d : Int} (h : ¬ (PV a b = true ∧ PV c d = true)) : farR a b c d = -1 := if_neg h
theorem farR_bd {a b c d : Int} (h : PV a b = true) (h' : PV c d = true) : 0 ≤ farR a b c d ∧ farR a b c d ≤ 800000000 := by
  rw [farR_yes h h']
  have := PV_iff.1 h; have := PV_iff.1 h'
  have h1 := sq_bd (x := c - a) (m := 20000) (by omega) (by omega)
  have h2 := sq_bd (x := d - b) (m := 20000) (by omega) (by omega)
  omega
theorem gapsR_yes {a b c d : Int} (h : PV a b = true) (h' : PV c d = true) : gapsR a b c d = (Int.gcd (c - a) (d - b) : Int) := if_pos ⟨h, h'⟩
theorem gapsR_no {a b c d : Int} (h : ¬ (PV a b = true ∧ PV c d = true)) : gapsR a b c d = -1 := if_neg h
end Go.Proofs.Yteoajklibkilmaa.Pure
