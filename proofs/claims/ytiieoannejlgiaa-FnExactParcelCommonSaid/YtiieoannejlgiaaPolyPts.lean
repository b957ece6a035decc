/- Lists of points: what the laws' helpers answer (copy, comparison), and whether corners are valid, as the reference tells it. -/
import Derived.Test.YtiieoannejlgiaaPolyCv
import Derived.Test.YtiieoannejlgiaaQ11
import Derived.Test.YtiieoannejlgiaaQ2
import Derived.Test.YtiieoannejlgiaaQ3
import Derived.Test.YtiieoannejlgiaaQ8
namespace Go.Proofs.Ytiieoannejlgiaa.Pure
open Go.RowKit Go.Proofs.Ytiieoannejlgiaa.Q Go.Proofs.YtiieoannejlgiaaW.PrintWords Go.Proofs.YtiieoannejlgiaaW.PrintLast Go.Proofs.YtiieoannejlgiaaW.PrintMore

/-- A point of the laws as one of the program. -/
def toPt (x : S35) : Pt := ⟨x.f0, x.f1⟩
theorem rd_midPL (pre suf : List S35) (y : S35) : rd_T35 (pre ++ y :: suf) (pre.length : Int) = y := by simp [rd_T35]

theorem toPointS_l0 (suf : List S35) : ∀ (pre : List S35) (k : Nat), suf.length < k → pre.length + suf.length < 4611686018427387904 →
    laws_toPointS.l0 k (pre ++ suf) (pre.map toPt ++ List.replicate suf.length z37) (pre.length : Int) = some ((pre ++ suf).map toPt) := by
  induction suf with
  | nil =>
    intro pre k hk _
    obtain ⟨k, rfl⟩ : ∃ m, k = m + 1 := ⟨k - 1, by omega⟩
    simp [laws_toPointS.l0]
  | cons y suf ih =>
    intro pre k hk hl
    simp only [List.length_cons] at hk hl
    obtain ⟨k, rfl⟩ : ∃ m, k = m + 1 := ⟨k - 1, by omega⟩
    have e : (pre.length : Int) = ((pre.map toPt).length : Int) := by simp
    simp only [laws_toPointS.l0, List.length_cons, List.replicate_succ, laws_toPoint.f, Option.bind_some]
    rw [if_pos (len_midP _ _ _), if_pos (by omega), if_pos (by rw [e]; exact len_midP _ _ _), rd_midPL]
    have := ih (pre ++ [y]) k (by omega) (by simp; omega)
    rw [next_midP pre y (by omega), app_midP pre suf y, e, set_midP, ← this]
    congr 1
    simp [toPt]
theorem toPointS_eq (k : Nat) (l : List S35) (hk : l.length < k) (hl : l.length ≤ 1048576) : laws_toPointS.f k l = some (l.map toPt) := by
  unfold laws_toPointS.f
  rw [if_pos (by omega), if_pos (by omega), Int.toNat_natCast]
  exact toPointS_l0 l [] k hk (by simp; omega)
theorem eqPointS_l0 (suf : List Pt) : ∀ (pre : List Pt) (k : Nat), suf.length < k → pre.length + suf.length < 4611686018427387904 →
    laws_eqPointS.l0 k (pre ++ suf) (pre ++ suf) (pre.length : Int) = some true := by
  induction suf with
  | nil =>
    intro pre k hk _
    obtain ⟨k, rfl⟩ : ∃ m, k = m + 1 := ⟨k - 1, by omega⟩
    simp [laws_eqPointS.l0]
  | cons y suf ih =>
    intro pre k hk hl
    simp only [List.length_cons] at hk hl
    obtain ⟨k, rfl⟩ : ∃ m, k = m + 1 := ⟨k - 1, by omega⟩
    simp only [laws_eqPointS.l0, laws_eqPoint.f, if_true, Option.bind_some]
    rw [if_pos (len_midP _ _ _), if_pos (by omega), if_pos (len_midP _ _ _), next_midP pre y (by omega), app_midP pre suf y]
    exact ih (pre ++ [y]) k (by omega) (by simp; omega)
theorem eqPointS_self (k : Nat) (l : List Pt) (hk : l.length < k) (hl : l.length ≤ 4611686018427387903) : laws_eqPointS.f k l l = some true := by
  unfold laws_eqPointS.f
  rw [if_pos rfl]
  exact eqPointS_l0 l [] k hk (by simp; omega)
theorem szPointS_eq (l : List S35) (h : l.length ≤ maxLen) : laws_szPointS.f l 1048576 = some (if l.length ≤ 1048576 then 1048576 - (l.length : Int) else -1) := by
  unfold maxLen at h
  unfold laws_szPointS.f
  rw [pw64 (by omega) (by omega)]
  by_cases q : l.length ≤ 1048576
  · rw [if_neg (by omega), if_pos q]
  · rw [if_pos (by omega), if_neg q]

theorem p6In_eq (a b c : Int) : spec_l6In.f a b c = some (decide (b ≤ a ∧ a ≤ c)) := by
  unfold spec_l6In.f
  by_cases h : a ≥ b
  · rw [if_pos h]; congr 1; rw [decide_eq_decide]; omega
  · rw [if_neg h]; congr 1; symm; rw [decide_eq_false_iff_not]; omega
theorem spec_PtValid_eq (p : Pt) : spec_PointValid.f p.f0 p.f1 = some (ptB p) := by
  simp only [spec_PointValid.f, p6In_eq, Option.bind_some]
  unfold ptB
  by_cases h : -10000 ≤ p.f0 ∧ p.f0 ≤ 10000
  · rw [if_pos (by simpa using h)]; congr 1; rw [decide_eq_decide]; exact ⟨fun q => ⟨h, q⟩, fun q => q.2⟩
  · rw [if_neg (by simpa using h)]; congr 1; symm; rw [decide_eq_false_iff_not]; exact fun q => h q.1
theorem l31Points_l0 {l : List Pt} (hl : l.length ≤ 4611686018427387903) (suf : List Pt) : ∀ (pre : List Pt) (k : Nat), suf.length < k → l = pre ++ suf →
    spec_l31Points.l0 k l (pre.length : Int) = some (suf.all ptB && decide (3 ≤ l.length ∧ l.length ≤ 12)) := by
  induction suf with
  | nil =>
    intro pre k hk he
    obtain ⟨k, rfl⟩ : ∃ m, k = m + 1 := ⟨k - 1, by omega⟩
    rw [List.append_nil] at he
    subst he
    rw [spec_l31Points.l0, if_neg (by omega), p6In_eq]
    simp only [Option.bind_some, List.all_nil, Bool.true_and]
    congr 1; rw [decide_eq_decide]; omega
  | cons y suf ih =>
    intro pre k hk he
    rw [List.length_cons] at hk
    obtain ⟨k, rfl⟩ : ∃ m, k = m + 1 := ⟨k - 1, by omega⟩
    have hlen : l.length = pre.length + suf.length + 1 := by rw [he]; simp; omega
    have hy : rd_T37 l (pre.length : Int) = y := by rw [he]; exact rd_midP pre suf y
    rw [spec_l31Points.l0, if_pos (by omega), if_pos (by omega), hy, spec_PtValid_eq]
    simp only [Option.bind_some, List.all_cons]
    by_cases h : ptB y = true
    · rw [if_pos h, next_midP pre y (by omega), ih (pre ++ [y]) k (by omega) (by rw [he]; simp), h, Bool.true_and]
    · rw [if_neg h, Bool.eq_false_iff.2 h, Bool.false_and, Bool.false_and]
theorem l31Points_eq (k : Nat) (l : List Pt) (hl : l.length ≤ 1048576) (hk : l.length < k) : spec_l31Points.f k l = some (cvB l) := by
  unfold spec_l31Points.f cvB
  have := l31Points_l0 (l := l) (by omega) l [] k hk rfl
  rw [Bool.and_comm] at this
  simpa using this
end Go.Proofs.Ytiieoannejlgiaa.Pure
