/- Lists of integers: what the laws' helpers answer (copy, comparison, marking). -/
import Derived.Test.YtfmjhckndlngaaaQ1
import Derived.Test.YtfmjhckndlngaaaQ2
namespace Go.Proofs.Ytfmjhckndlngaaa.Pure
open Go.RowKit Go.Proofs.Ytfmjhckndlngaaa.Q Go.Proofs.YtfmjhckndlngaaaW.PrintWords Go.Proofs.YtfmjhckndlngaaaW.PrintLast Go.Proofs.YtfmjhckndlngaaaW.PrintMore

theorem rd_mid (pre suf : List Int) (y : Int) : rd (pre ++ y :: suf) (pre.length : Int) = y := by simp [rd]
theorem len_mid (pre suf : List Int) (y : Int) : (pre.length : Int) < ((pre ++ y :: suf).length : Int) := by simp; omega
theorem app_mid (pre suf : List Int) (y : Int) : pre ++ y :: suf = (pre ++ [y]) ++ suf := by simp
theorem next_mid (pre : List Int) (y : Int) (h : pre.length < 4611686018427387904) : wrap64 ((pre.length : Int) + 1) = ((pre ++ [y]).length : Int) := by
  unfold wrap64; simp; omega
theorem set_mid (pre suf : List Int) (y z : Int) : (pre ++ y :: suf).set ((pre.length : Int)).toNat z = pre ++ z :: suf := by
  simp

theorem toIntS_l0 (suf : List Int) : ∀ (pre : List Int) (k : Nat), suf.length < k → pre.length + suf.length < 4611686018427387904 →
    laws_toIntS.l0 k (pre ++ suf) (pre ++ List.replicate suf.length 0) (pre.length : Int) = some (pre ++ suf) := by
  induction suf with
  | nil =>
    intro pre k hk _
    obtain ⟨k, rfl⟩ : ∃ m, k = m + 1 := ⟨k - 1, by omega⟩
    simp [laws_toIntS.l0]
  | cons y suf ih =>
    intro pre k hk hl
    simp only [List.length_cons] at hk hl
    obtain ⟨k, rfl⟩ : ∃ m, k = m + 1 := ⟨k - 1, by omega⟩
    simp only [laws_toIntS.l0, List.length_cons, List.replicate_succ]
    rw [if_pos (len_mid _ _ _), if_pos (by omega), if_pos (len_mid _ _ _), rd_mid, set_mid, next_mid pre y (by omega), app_mid pre suf y, app_mid pre (List.replicate suf.length 0) y]
    exact ih (pre ++ [y]) k (by omega) (by simp; omega)
theorem toIntS_eq (k : Nat) (l : List Int) (hk : l.length < k) (hl : l.length ≤ 1048576) : laws_toIntS.f k l = some l := by
  unfold laws_toIntS.f
  rw [if_pos (by omega), if_pos (by omega), Int.toNat_natCast]
  exact toIntS_l0 l [] k hk (by simp; omega)

theorem eqIntS_l0 (suf : List Int) : ∀ (pre : List Int) (k : Nat), suf.length < k → pre.length + suf.length < 4611686018427387904 →
    laws_eqIntS.l0 k (pre ++ suf) (pre ++ suf) (pre.length : Int) = some true := by
  induction suf with
  | nil =>
    intro pre k hk _
    obtain ⟨k, rfl⟩ : ∃ m, k = m + 1 := ⟨k - 1, by omega⟩
    simp [laws_eqIntS.l0]
  | cons y suf ih =>
    intro pre k hk hl
    simp only [List.length_cons] at hk hl
    obtain ⟨k, rfl⟩ : ∃ m, k = m + 1 := ⟨k - 1, by omega⟩
    simp only [laws_eqIntS.l0]
    rw [if_pos (len_mid _ _ _), if_pos (by omega), if_pos (len_mid _ _ _), if_pos trivial, next_mid pre y (by omega), app_mid pre suf y]
    exact ih (pre ++ [y]) k (by omega) (by simp; omega)
theorem eqIntS_self (k : Nat) (l : List Int) (hk : l.length < k) (hl : l.length ≤ 4611686018427387903) : laws_eqIntS.f k l l = some true := by
  unfold laws_eqIntS.f
  rw [if_pos rfl]
  exact eqIntS_l0 l [] k hk (by simp; omega)
end Go.Proofs.Ytfmjhckndlngaaa.Pure
