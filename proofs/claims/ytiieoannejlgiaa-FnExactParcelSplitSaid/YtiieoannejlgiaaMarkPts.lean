/- Marking a list of points, and holding a marked one against its marks. -/
import Derived.Test.YtiieoannejlgiaaPolyPts
import Derived.Test.YtiieoannejlgiaaQ3
import Derived.Test.YtiieoannejlgiaaQ4
namespace Go.Proofs.Ytiieoannejlgiaa.Pure
open Go.RowKit Go.Proofs.Ytiieoannejlgiaa.Q Go.Proofs.YtiieoannejlgiaaW.PrintWords Go.Proofs.YtiieoannejlgiaaW.PrintLast Go.Proofs.YtiieoannejlgiaaW.PrintMore
/-- So many points of numbers that follow each other. -/
def ascP : Int → Nat → List Pt
  | _, 0 => []
  | a, n + 1 => (⟨a, a + 1⟩ : Pt) :: ascP (a + 2) n
theorem markPointS_l0 (suf : List Pt) : ∀ (pre : List Pt) (a : Int) (k : Nat), suf.length < k → pre.length + suf.length < 4611686018427387904 → 0 ≤ a → a + 2 * suf.length < 4611686018427387904 →
    laws_markPointS.l0 k (pre ++ suf) a (pre.length : Int) = some (a + 2 * suf.length, pre ++ ascP a suf.length) := by
  induction suf with
  | nil =>
    intro pre a k hk _ _ _
    obtain ⟨k, rfl⟩ : ∃ m, k = m + 1 := ⟨k - 1, by omega⟩
    simp [laws_markPointS.l0, ascP]
  | cons y suf ih =>
    intro pre a k hk hl h0 h1
    simp only [List.length_cons] at hk hl h1
    obtain ⟨k, rfl⟩ : ∃ m, k = m + 1 := ⟨k - 1, by omega⟩
    simp only [laws_markPointS.l0, Option.bind_some]
    rw [if_pos (len_midP _ _ _), if_pos (by omega)]
    simp only [rd_midP, set_midP]
    rw [next_midP pre y (by omega), pw64 (x := a + 1) (by omega) (by omega), pw64 (x := a + 1 + 1) (by omega) (by omega)]
    have := ih (pre ++ [(⟨a, a + 1⟩ : Pt)]) (a + 2) k (by omega) (by simp; omega) (by omega) (by omega)
    have e : ((pre ++ [y]).length : Int) = ((pre ++ [(⟨a, a + 1⟩ : Pt)]).length : Int) := by simp
    rw [e, show a + 1 + 1 = a + 2 by omega, app_midP pre suf, this]
    simp only [List.length_cons, ascP, List.append_assoc, List.singleton_append]
    congr 2
    omega
theorem heldPointS_l0 (n : Nat) : ∀ (pre : List Pt) (a : Int) (k : Nat), n < k → pre.length + n < 4611686018427387904 → 0 ≤ a → a + 2 * n < 4611686018427387904 →
    laws_heldPointS.l0 k (pre ++ ascP a n) a (pre.length : Int) = some (a + 2 * n) := by
  induction n with
  | zero =>
    intro pre a k hk _ _ _
    obtain ⟨k, rfl⟩ : ∃ m, k = m + 1 := ⟨k - 1, by omega⟩
    simp [laws_heldPointS.l0, ascP]
  | succ n ih =>
    intro pre a k hk hl h0 h1
    obtain ⟨k, rfl⟩ : ∃ m, k = m + 1 := ⟨k - 1, by omega⟩
    rw [show ascP a (n + 1) = (⟨a, a + 1⟩ : Pt) :: ascP (a + 2) n from rfl]
    simp only [laws_heldPointS.l0]
    rw [if_pos (len_midP _ _ _), if_pos (by omega), rd_midP, pw64 (x := a + 1) (by omega) (by omega), pw64 (x := a + 1 + 1) (by omega) (by omega)]
    rw [if_pos rfl, if_pos rfl, next_midP pre _ (by omega), app_midP pre _ _, show a + 1 + 1 = a + 2 by omega, ih (pre ++ [_]) (a + 2) k (by omega) (by simp; omega) (by omega) (by omega)]
    congr 1
    omega
end Go.Proofs.Ytiieoannejlgiaa.Pure
