/- Lists of runs: what the laws' helpers answer (copy, comparison). -/
import Derived.Test.YtbbpianfoimejaaRunsN
import Derived.Test.YtbbpianfoimejaaQ13
import Derived.Test.YtbbpianfoimejaaQ14
import Derived.Test.YtbbpianfoimejaaQ2
import Derived.Test.YtbbpianfoimejaaQ8
namespace Go.Proofs.Ytbbpianfoimejaa.Pure
open Go.RowKit Go.Proofs.Ytbbpianfoimejaa.Q Go.Proofs.YtbbpianfoimejaaW.PrintWords Go.Proofs.YtbbpianfoimejaaW.PrintLast Go.Proofs.YtbbpianfoimejaaW.PrintMore

/-- A run of the laws as one of the program. -/
def toRun (x : S55) : Run := ⟨x.f0, x.f1, x.f2, x.f3⟩
theorem rd_midL (pre suf : List S55) (y : S55) : rd_T55 (pre ++ y :: suf) (pre.length : Int) = y := by simp [rd_T55]

theorem toRunS_l0 (suf : List S55) : ∀ (pre : List S55) (k : Nat), suf.length < k → pre.length + suf.length < 4611686018427387904 →
    laws_toRunS.l0 k (pre ++ suf) (pre.map toRun ++ List.replicate suf.length z46) (pre.length : Int) = some ((pre ++ suf).map toRun) := by
  induction suf with
  | nil =>
    intro pre k hk _
    obtain ⟨k, rfl⟩ : ∃ m, k = m + 1 := ⟨k - 1, by omega⟩
    simp [laws_toRunS.l0]
  | cons y suf ih =>
    intro pre k hk hl
    simp only [List.length_cons] at hk hl
    obtain ⟨k, rfl⟩ : ∃ m, k = m + 1 := ⟨k - 1, by omega⟩
    have e : (pre.length : Int) = ((pre.map toRun).length : Int) := by simp
    simp only [laws_toRunS.l0, List.length_cons, List.replicate_succ, laws_toRun.f, Option.bind_some]
    rw [if_pos (len_midR _ _ _), if_pos (by omega), if_pos (by rw [e]; exact len_midR _ _ _), rd_midL]
    have := ih (pre ++ [y]) k (by omega) (by simp; omega)
    rw [next_midR pre y (by omega), app_midR pre suf y, e, set_midR, ← this]
    congr 1
    simp [toRun]
theorem toRunS_eq (k : Nat) (l : List S55) (hk : l.length < k) (hl : l.length ≤ 1048576) : laws_toRunS.f k l = some (l.map toRun) := by
  unfold laws_toRunS.f
  rw [if_pos (by omega), if_pos (by omega), Int.toNat_natCast]
  exact toRunS_l0 l [] k hk (by simp; omega)

theorem eqRunS_l0 (suf : List Run) : ∀ (pre : List Run) (k : Nat), suf.length < k → pre.length + suf.length < 4611686018427387904 →
    laws_eqRunS.l0 k (pre ++ suf) (pre ++ suf) (pre.length : Int) = some true := by
  induction suf with
  | nil =>
    intro pre k hk _
    obtain ⟨k, rfl⟩ : ∃ m, k = m + 1 := ⟨k - 1, by omega⟩
    simp [laws_eqRunS.l0]
  | cons y suf ih =>
    intro pre k hk hl
    simp only [List.length_cons] at hk hl
    obtain ⟨k, rfl⟩ : ∃ m, k = m + 1 := ⟨k - 1, by omega⟩
    simp only [laws_eqRunS.l0, laws_eqRun.f, if_true, Option.bind_some]
    rw [if_pos (len_midR _ _ _), if_pos (by omega), if_pos (len_midR _ _ _), next_midR pre y (by omega), app_midR pre suf y]
    exact ih (pre ++ [y]) k (by omega) (by simp; omega)
theorem eqRunS_self (k : Nat) (l : List Run) (hk : l.length < k) (hl : l.length ≤ 4611686018427387903) : laws_eqRunS.f k l l = some true := by
  unfold laws_eqRunS.f
  rw [if_pos rfl]
  exact eqRunS_l0 l [] k hk (by simp; omega)
theorem szRunS_eq (l : List S55) (h : l.length ≤ maxLen) : laws_szRunS.f l 1048576 = some (if l.length ≤ 1048576 then 1048576 - (l.length : Int) else -1) := by
  unfold maxLen at h
  unfold laws_szRunS.f
  rw [nw64 (by omega) (by omega)]
  by_cases q : l.length ≤ 1048576
  · rw [if_neg (by omega), if_pos q]
  · rw [if_pos (by omega), if_neg q]

end Go.Proofs.Ytbbpianfoimejaa.Pure
