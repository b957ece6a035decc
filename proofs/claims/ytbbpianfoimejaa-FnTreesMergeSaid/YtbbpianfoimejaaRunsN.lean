/- Lists of runs, and whether a net is valid (chapter 22). -/
import Derived.Test.YtbbpianfoimejaaQ10
import Derived.Test.YtbbpianfoimejaaQ2
import Derived.Test.YtbbpianfoimejaaQ6
import Derived.Test.YtbbpianfoimejaaQ9
namespace Go.Proofs.Ytbbpianfoimejaa.Pure
open Go.RowKit Go.Proofs.Ytbbpianfoimejaa.Q Go.Proofs.YtbbpianfoimejaaW.PrintWords Go.Proofs.YtbbpianfoimejaaW.PrintLast Go.Proofs.YtbbpianfoimejaaW.PrintMore

abbrev Run := S46
theorem nw64 {x : Int} (h0 : -9223372036854775808 ≤ x) (h1 : x ≤ 9223372036854775807) : wrap64 x = x := by unfold wrap64; omega
section
variable {α : Type} (pre suf : List α) (y : α)
theorem len_midR : (pre.length : Int) < ((pre ++ y :: suf).length : Int) := by simp; omega
theorem app_midR : pre ++ y :: suf = (pre ++ [y]) ++ suf := by simp
theorem next_midR (h : pre.length < 4611686018427387904) : wrap64 ((pre.length : Int) + 1) = ((pre ++ [y]).length : Int) := by
  unfold wrap64; simp; omega
theorem set_midR (z : α) : (pre ++ y :: suf).set ((pre.length : Int)).toNat z = pre ++ z :: suf := by simp
end
theorem rd_midR (pre suf : List Run) (y : Run) : rd_T46 (pre ++ y :: suf) (pre.length : Int) = y := by simp [rd_T46]

/-- A valid run of a net with n nodes. -/
def rvB (n : Int) (r : Run) : Bool := decide ((0 ≤ r.f0 ∧ r.f0 < n ∧ 0 ≤ r.f1 ∧ r.f1 < n ∧ r.f0 ≠ r.f1) ∧ (-100000 ≤ r.f2 ∧ r.f2 ≤ 100000) ∧ 1 ≤ r.f3 ∧ r.f3 ≤ 9)
/-- A valid net. -/
def nvB (n : Int) (l : List Run) : Bool := decide (2 ≤ n ∧ n ≤ 6 ∧ l.length ≤ 12) && l.all (rvB n)

theorem n6In_eq (a b c : Int) : spec_l6In.f a b c = some (decide (b ≤ a ∧ a ≤ c)) := by
  unfold spec_l6In.f
  by_cases h : a ≥ b
  · rw [if_pos h]; congr 1; rw [decide_eq_decide]; omega
  · rw [if_neg h]; congr 1; symm; rw [decide_eq_false_iff_not]; omega
theorem nwithin_eq (a m : Int) (h0 : 0 ≤ m) (h1 : m ≤ 9223372036854775807) : impl_within.f a m = some (decide (-m ≤ a ∧ a ≤ m)) := by
  unfold impl_within.f
  rw [nw64 (by omega) (by omega)]
  by_cases h : -m ≤ a
  · rw [if_pos h]; congr 1; rw [decide_eq_decide]; omega
  · rw [if_neg h]; congr 1; symm; rw [decide_eq_false_iff_not]; omega
theorem runValid_eq (n : Int) (r : Run) : impl_runValid.f n r.f0 r.f1 r.f2 r.f3 = some (rvB n r) := by
  simp only [impl_runValid.f, nwithin_eq _ 100000 (by omega) (by omega), Option.bind_some]
  unfold rvB
  repeat' split
  all_goals ((try simp only [decide_eq_true_eq] at *); congr 1; first | (symm; rw [decide_eq_false_iff_not]; omega) | (rw [decide_eq_decide]; omega))
theorem impl_NetValid_l0 (n : Int) (suf : List Run) : ∀ (pre : List Run) (k : Nat), suf.length < k → pre.length + suf.length < 4611686018427387904 →
    impl_NetValid.l0 k n (pre ++ suf) ((pre ++ suf).length : Int) (pre.length : Int) = some (suf.all (rvB n)) := by
  induction suf with
  | nil =>
    intro pre k hk _
    obtain ⟨k, rfl⟩ : ∃ m, k = m + 1 := ⟨k - 1, by omega⟩
    simp [impl_NetValid.l0]
  | cons y suf ih =>
    intro pre k hk hl
    simp only [List.length_cons] at hk hl
    obtain ⟨k, rfl⟩ : ∃ m, k = m + 1 := ⟨k - 1, by omega⟩
    simp only [impl_NetValid.l0]
    rw [if_pos (len_midR _ _ _), if_pos (by omega), if_pos (len_midR _ _ _), rd_midR, runValid_eq]
    simp only [Option.bind_some, List.all_cons]
    by_cases h : rvB n y = true
    · rw [if_pos h, next_midR pre y (by omega), app_midR pre suf y, ih (pre ++ [y]) k (by omega) (by simp; omega), h, Bool.true_and]
    · rw [if_neg h, Bool.eq_false_iff.2 h, Bool.false_and]
theorem impl_NetValid_eq (k : Nat) (n : Int) (l : List Run) (hk : 20 < k) : impl_NetValid.f k n l = some (nvB n l) := by
  obtain ⟨k, rfl⟩ : ∃ m, k = m + 1 := ⟨k - 1, by omega⟩
  unfold impl_NetValid.f nvB
  by_cases h1 : n < 2
  · rw [if_pos h1, decide_eq_false (by omega)]; simp [impl_NetValid.j0]
  · by_cases h2 : n > 6
    · rw [if_neg h1, if_pos h2, decide_eq_false (by omega)]; simp [impl_NetValid.j0]
    · rw [if_neg h1, if_neg h2]
      simp only [impl_NetValid.j0]
      by_cases h3 : (l.length : Int) > 12
      · rw [if_pos (by simpa using h3), decide_eq_false (by omega)]; simp
      · rw [if_neg (by simpa using h3), decide_eq_true (by omega), Bool.true_and]
        have := impl_NetValid_l0 n l [] k (by omega) (by simp; omega)
        simpa using this
theorem spec_NetValid_l0 (n : Int) (hn : 2 ≤ n ∧ n ≤ 6) (suf : List Run) : ∀ (pre : List Run) (k : Nat), 2 * suf.length + 1 < k → pre.length + suf.length < 4611686018427387904 →
    spec_NetValid.l0 k n (pre ++ suf) (pre.length : Int) = some (suf.all (rvB n)) := by
  induction suf with
  | nil =>
    intro pre k hk _
    obtain ⟨k, rfl⟩ : ∃ m, k = m + 1 := ⟨k - 1, by omega⟩
    simp [spec_NetValid.l0]
  | cons y suf ih =>
    intro pre k hk hl
    simp only [List.length_cons] at hk hl
    obtain ⟨k, rfl⟩ : ∃ m, k = m + 2 := ⟨k - 2, by omega⟩
    rw [spec_NetValid.l0]
    simp only [n6In_eq, Option.bind_some, List.all_cons]
    rw [if_pos (len_midR _ _ _), if_pos (by omega), rd_midR, nw64 (x := n - 1) (by omega) (by omega)]
    have hj : ∀ t : Bool, spec_NetValid.j2 (k + 1) n (pre ++ y :: suf) (pre.length : Int) t y.f0 y.f1 y.f2 y.f3 = some (!t && (decide ((-100000 ≤ y.f2 ∧ y.f2 ≤ 100000) ∧ 1 ≤ y.f3 ∧ y.f3 ≤ 9) && suf.all (rvB n))) := by
      intro t
      simp only [spec_NetValid.j2, n6In_eq, Option.bind_some]
      cases t with
      | true => simp
      | false =>
        rw [if_neg (by simp)]
        by_cases h1 : -100000 ≤ y.f2 ∧ y.f2 ≤ 100000
        · rw [if_pos (by simpa using h1)]
          by_cases h2 : 1 ≤ y.f3 ∧ y.f3 ≤ 9
          · rw [if_pos (by simpa using h2), next_midR pre y (by omega), app_midR pre suf y, ih (pre ++ [y]) k (by omega) (by simp; omega), decide_eq_true ⟨h1, h2⟩]; simp
          · rw [if_neg (by simpa using h2), decide_eq_false (fun q => h2 q.2)]; simp
        · rw [if_neg (by simpa using h1), decide_eq_false (fun q => h1 q.1)]; simp
    by_cases h0 : 0 ≤ y.f0 ∧ y.f0 ≤ n - 1
    · rw [if_pos (by simpa using h0)]
      by_cases h1 : 0 ≤ y.f1 ∧ y.f1 ≤ n - 1
      · rw [if_pos (by simpa using h1), hj, ← Bool.and_assoc]
        congr 2
        unfold rvB
        rw [Bool.eq_iff_iff, decide_eq_true_eq, Bool.and_eq_true, decide_eq_true_eq]
        simp; omega
      · rw [if_neg (by simpa using h1), hj]
        have : rvB n y = false := by unfold rvB; rw [decide_eq_false_iff_not]; omega
        rw [this]; simp
    · rw [if_neg (by simpa using h0), hj]
      have : rvB n y = false := by unfold rvB; rw [decide_eq_false_iff_not]; omega
      rw [this]; simp
theorem spec_NetValid_eq (k : Nat) (n : Int) (l : List Run) (hk : 40 < k) : spec_NetValid.f k n l = some (nvB n l) := by
  obtain ⟨k, rfl⟩ : ∃ m, k = m + 1 := ⟨k - 1, by omega⟩
  simp only [spec_NetValid.f, n6In_eq, Option.bind_some, spec_NetValid.j0]
  unfold nvB
  by_cases h1 : 2 ≤ n ∧ n ≤ 6
  · rw [if_pos (by simpa using h1)]
    by_cases h3 : (l.length : Int) > 12
    · rw [if_pos (by simpa using h3), decide_eq_false (by omega)]; simp
    · rw [if_neg (by simpa using h3), decide_eq_true (by omega), Bool.true_and]
      have := spec_NetValid_l0 n h1 l [] k (by omega) (by simp; omega)
      simpa using this
  · rw [if_neg (by simpa using h1), if_pos trivial, decide_eq_false (by omega)]; simp
theorem nvB_iff {n : Int} {l : List Run} : nvB n l = true ↔ (2 ≤ n ∧ n ≤ 6 ∧ l.length ≤ 12) ∧ ∀ r ∈ l, rvB n r = true := by
  unfold nvB; rw [Bool.and_eq_true, decide_eq_true_eq, List.all_eq_true]
theorem rvB_iff {n : Int} {r : Run} : rvB n r = true ↔ (0 ≤ r.f0 ∧ r.f0 < n ∧ 0 ≤ r.f1 ∧ r.f1 < n ∧ r.f0 ≠ r.f1) ∧ (-100000 ≤ r.f2 ∧ r.f2 ≤ 100000) ∧ 1 ≤ r.f3 ∧ r.f3 ≤ 9 := by
  unfold rvB; rw [decide_eq_true_eq]
end Go.Proofs.Ytbbpianfoimejaa.Pure
