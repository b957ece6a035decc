/- Closed forms of the reference's checks of lists of points. -/
import Derived.Test.YtgdhgncdpmalcaaPolyCv
import Derived.Test.YtgdhgncdpmalcaaQ2
namespace Go.Proofs.Ytgdhgncdpmalcaa.Pure
open Go.RowKit Go.Proofs.Ytgdhgncdpmalcaa.Q Go.Proofs.YtgdhgncdpmalcaaW.PrintWords Go.Proofs.YtgdhgncdpmalcaaW.PrintLast
theorem p6In_eq (a b c : Int) : spec_l6In.f a b c = some (decide (b ≤ a ∧ a ≤ c)) := by
  unfold spec_l6In.f
  by_cases h : a ≥ b
  · rw [if_pos h]; congr 1; rw [decide_eq_decide]; omega
  · rw [if_neg h]; congr 1; symm; rw [decide_eq_false_iff_not]; omega
theorem spec_PtValid_eq (p : Pt) : spec_PointValid.f p.f0 p.f1 = some (ptB p) := by
  simp only [spec_PointValid.f, p6In_eq, Option.bind_some]
  unfold ptB
  by_cases h : -10000 ≤ p.f0 ∧ p.f0 ≤ 10000
  · rw [if_pos (by simpa using h)]; congr 1; rw [decide_eq_decide]; exact ⟨fun q => ⟨h, q⟩, fun q => q.2⟩
  · rw [if_neg (by simpa using h)]; congr 1; symm; rw [decide_eq_false_iff_not]; exact fun q => h q.1
theorem l31Points_l0 {l : List Pt} (hl : l.length ≤ 4611686018427387903) (suf : List Pt) : ∀ (pre : List Pt) (k : Nat), suf.length < k → l = pre ++ suf →
    spec_l31Points.l0 k l (pre.length : Int) = some (suf.all ptB && decide (3 ≤ l.length ∧ l.length ≤ 12)) := by
  induction suf with
  | nil =>
    intro pre k hk he
    obtain ⟨k, rfl⟩ : ∃ m, k = m + 1 := ⟨k - 1, by omega⟩
    rw [List.append_nil] at he
    subst he
    rw [spec_l31Points.l0, if_neg (by omega), p6In_eq]
    simp only [Option.bind_some, List.all_nil, Bool.true_and]
    congr 1; rw [decide_eq_decide]; omega
  | cons y suf ih =>
    intro pre k hk he
    rw [List.length_cons] at hk
    obtain ⟨k, rfl⟩ : ∃ m, k = m + 1 := ⟨k - 1, by omega⟩
    have hlen : l.length = pre.length + suf.length + 1 := by rw [he]; simp; omega
    have hy : rd_T32 l (pre.length : Int) = y := by rw [he]; exact rd_midP pre suf y
    rw [spec_l31Points.l0, if_pos (by omega), if_pos (by omega), hy, spec_PtValid_eq]
    simp only [Option.bind_some, List.all_cons]
    by_cases h : ptB y = true
    · rw [if_pos h, next_midP pre y (by omega), ih (pre ++ [y]) k (by omega) (by rw [he]; simp), h, Bool.true_and]
    · rw [if_neg h, Bool.eq_false_iff.2 h, Bool.false_and, Bool.false_and]
theorem l31Points_eq (k : Nat) (l : List Pt) (hl : l.length ≤ 1048576) (hk : l.length < k) : spec_l31Points.f k l = some (cvB l) := by
  unfold spec_l31Points.f cvB
  have := l31Points_l0 (l := l) (by omega) l [] k hk rfl
  rw [Bool.and_comm] at this
  simpa using this
end Go.Proofs.Ytgdhgncdpmalcaa.Pure
