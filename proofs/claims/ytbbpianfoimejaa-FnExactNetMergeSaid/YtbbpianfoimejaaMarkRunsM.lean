/- Marking a list of runs, and holding a marked one against its marks. -/
import Derived.Test.YtbbpianfoimejaaRuns
import Derived.Test.YtbbpianfoimejaaQ15
namespace Go.Proofs.Ytbbpianfoimejaa.Pure
open Go.RowKit Go.Proofs.Ytbbpianfoimejaa.Q Go.Proofs.YtbbpianfoimejaaW.PrintWords Go.Proofs.YtbbpianfoimejaaW.PrintLast Go.Proofs.YtbbpianfoimejaaW.PrintMore
/-- So many runs of numbers that follow each other. -/
def ascR : Int → Nat → List Run
  | _, 0 => []
  | a, n + 1 => (⟨a, a + 1, a + 2, a + 3⟩ : Run) :: ascR (a + 4) n
theorem ascR_length (n : Nat) : ∀ a, (ascR a n).length = n := by
  induction n with
  | zero => intro a; rfl
  | succ n ih => intro a; simp [ascR, ih]
theorem markRunS_l0 (suf : List Run) : ∀ (pre : List Run) (a : Int) (k : Nat), suf.length < k → pre.length + suf.length < 4611686018427387904 → 0 ≤ a → a + 4 * suf.length < 4611686018427387904 →
    laws_markRunS.l0 k (pre ++ suf) a (pre.length : Int) = some (a + 4 * suf.length, pre ++ ascR a suf.length) := by
  induction suf with
  | nil =>
    intro pre a k hk _ _ _
    obtain ⟨k, rfl⟩ : ∃ m, k = m + 1 := ⟨k - 1, by omega⟩
    simp [laws_markRunS.l0, ascR]
  | cons y suf ih =>
    intro pre a k hk hl h0 h1
    simp only [List.length_cons] at hk hl h1
    obtain ⟨k, rfl⟩ : ∃ m, k = m + 1 := ⟨k - 1, by omega⟩
    simp only [laws_markRunS.l0, Option.bind_some]
    rw [if_pos (len_midR _ _ _), if_pos (by omega)]
    simp only [rd_midR, set_midR]
    rw [next_midR pre y (by omega), nw64 (x := a + 1) (by omega) (by omega), nw64 (x := a + 1 + 1) (by omega) (by omega), nw64 (x := a + 1 + 1 + 1) (by omega) (by omega), nw64 (x := a + 1 + 1 + 1 + 1) (by omega) (by omega)]
    have := ih (pre ++ [(⟨a, a + 1, a + 2, a + 3⟩ : Run)]) (a + 4) k (by omega) (by simp; omega) (by omega) (by omega)
    have e : ((pre ++ [y]).length : Int) = ((pre ++ [(⟨a, a + 1, a + 2, a + 3⟩ : Run)]).length : Int) := by simp
    rw [e, show a + 1 + 1 = a + 2 by omega, show a + 2 + 1 = a + 3 by omega, show a + 3 + 1 = a + 4 by omega, app_midR pre suf, this]
    simp only [List.length_cons, ascR, List.append_assoc, List.singleton_append]
    congr 2
    omega
theorem markRunS_eq (k : Nat) (l : List Run) (hk : l.length < k) (hl : l.length ≤ 1000000000) : laws_markRunS.f k l 1 = some (1 + 4 * (l.length : Int), ascR 1 l.length) := by
  have := markRunS_l0 l [] 1 k hk (by simp; omega) (by omega) (by omega)
  simpa [laws_markRunS.f] using this
end Go.Proofs.Ytbbpianfoimejaa.Pure
