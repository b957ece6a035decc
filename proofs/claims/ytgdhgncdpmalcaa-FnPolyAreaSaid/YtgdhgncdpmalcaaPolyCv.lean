/- Whether corners are valid, as the program tells it. -/
import Derived.Test.YtgdhgncdpmalcaaQ14
import Derived.Test.YtgdhgncdpmalcaaQ2
namespace Go.Proofs.Ytgdhgncdpmalcaa.Pure
open Go.RowKit Go.Proofs.Ytgdhgncdpmalcaa.Q Go.Proofs.YtgdhgncdpmalcaaW.PrintWords Go.Proofs.YtgdhgncdpmalcaaW.PrintLast Go.Proofs.YtgdhgncdpmalcaaW.PrintMore

abbrev Pt := S32
theorem pw64 {x : Int} (h0 : -9223372036854775808 ≤ x) (h1 : x ≤ 9223372036854775807) : wrap64 x = x := by unfold wrap64; omega
section
variable {α : Type} (pre suf : List α) (y : α)
theorem len_midP : (pre.length : Int) < ((pre ++ y :: suf).length : Int) := by simp; omega
theorem app_midP : pre ++ y :: suf = (pre ++ [y]) ++ suf := by simp
theorem next_midP (h : pre.length < 4611686018427387904) : wrap64 ((pre.length : Int) + 1) = ((pre ++ [y]).length : Int) := by
  unfold wrap64; simp; omega
theorem set_midP (z : α) : (pre ++ y :: suf).set ((pre.length : Int)).toNat z = pre ++ z :: suf := by simp
end
theorem rd_midP (pre suf : List Pt) (y : Pt) : rd_T32 (pre ++ y :: suf) (pre.length : Int) = y := by simp [rd_T32]

/-- A point in range. -/
def ptB (p : Pt) : Bool := decide ((-10000 ≤ p.f0 ∧ p.f0 ≤ 10000) ∧ -10000 ≤ p.f1 ∧ p.f1 ≤ 10000)
theorem ptB_iff {p : Pt} : ptB p = true ↔ (-10000 ≤ p.f0 ∧ p.f0 ≤ 10000) ∧ -10000 ≤ p.f1 ∧ p.f1 ≤ 10000 := by unfold ptB; rw [decide_eq_true_eq]
/-- Valid corners. -/
def cvB (l : List Pt) : Bool := decide (3 ≤ l.length ∧ l.length ≤ 12) && l.all ptB
theorem cvB_iff {l : List Pt} : cvB l = true ↔ (3 ≤ l.length ∧ l.length ≤ 12) ∧ ∀ p ∈ l, ptB p = true := by
  unfold cvB; rw [Bool.and_eq_true, decide_eq_true_eq, List.all_eq_true]
theorem pwithin_eq (a m : Int) (h0 : 0 ≤ m) (h1 : m ≤ 9223372036854775807) : impl_within.f a m = some (decide (-m ≤ a ∧ a ≤ m)) := by
  unfold impl_within.f
  rw [pw64 (by omega) (by omega)]
  by_cases h : -m ≤ a
  · rw [if_pos h]; congr 1; rw [decide_eq_decide]; omega
  · rw [if_neg h]; congr 1; symm; rw [decide_eq_false_iff_not]; omega
theorem impl_PtValid_eq (p : Pt) : impl_PointValid.f p.f0 p.f1 = some (ptB p) := by
  simp only [impl_PointValid.f, impl_pairOf.f, impl_pair_inRange.f, pwithin_eq _ 10000 (by omega) (by omega), Option.bind_some]
  unfold ptB
  by_cases h : -10000 ≤ p.f0 ∧ p.f0 ≤ 10000
  · rw [if_pos (by simpa using h)]; simp only [Option.bind_some]; congr 1; rw [decide_eq_decide]; exact ⟨fun q => ⟨h, q⟩, fun q => q.2⟩
  · rw [if_neg (by simpa using h)]; simp only [Option.bind_some]; congr 1; symm; rw [decide_eq_false_iff_not]; exact fun q => h q.1
theorem cornersValid_l0 (suf : List Pt) : ∀ (pre : List Pt) (k : Nat), suf.length < k → pre.length + suf.length < 4611686018427387904 →
    impl_cornersValid.l0 k (pre ++ suf) ((pre ++ suf).length : Int) (pre.length : Int) = some (suf.all ptB) := by
  induction suf with
  | nil =>
    intro pre k hk _
    obtain ⟨k, rfl⟩ : ∃ m, k = m + 1 := ⟨k - 1, by omega⟩
    simp [impl_cornersValid.l0]
  | cons y suf ih =>
    intro pre k hk hl
    simp only [List.length_cons] at hk hl
    obtain ⟨k, rfl⟩ : ∃ m, k = m + 1 := ⟨k - 1, by omega⟩
    rw [impl_cornersValid.l0, if_pos (len_midP _ _ _), if_pos (by omega), if_pos (len_midP _ _ _), rd_midP, impl_PtValid_eq]
    simp only [Option.bind_some, List.all_cons]
    by_cases h : ptB y = true
    · rw [if_pos h, next_midP pre y (by omega), app_midP pre suf y, ih (pre ++ [y]) k (by omega) (by simp; omega), h, Bool.true_and]
    · rw [if_neg h, Bool.eq_false_iff.2 h, Bool.false_and]
theorem cornersValid_eq (k : Nat) (l : List Pt) (hk : 20 < k) : impl_cornersValid.f k l = some (cvB l) := by
  obtain ⟨k, rfl⟩ : ∃ m, k = m + 1 := ⟨k - 1, by omega⟩
  unfold impl_cornersValid.f cvB
  by_cases h1 : (l.length : Int) < 3
  · rw [if_pos h1, decide_eq_false (by omega)]; simp [impl_cornersValid.j0]
  · rw [if_neg h1]
    simp only [impl_cornersValid.j0]
    by_cases h2 : (l.length : Int) > 12
    · rw [if_pos (by simpa using h2), decide_eq_false (by omega)]; simp
    · rw [if_neg (by simpa using h2), decide_eq_true (by omega), Bool.true_and]
      have := cornersValid_l0 l [] k (by omega) (by simp; omega)
      simpa using this
end Go.Proofs.Ytgdhgncdpmalcaa.Pure
