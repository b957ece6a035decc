/- The sum of a list, as the laws reckon it; whether two lists are the same. -/
import Derived.Test.YtfmjhckndlngaaaShares
import Derived.Test.YtfmjhckndlngaaaQ3
namespace Go.Proofs.Ytfmjhckndlngaaa.Pure
open Go.RowKit Go.Proofs.Ytfmjhckndlngaaa.Q Go.Proofs.YtfmjhckndlngaaaW.PrintWords Go.Proofs.YtfmjhckndlngaaaW.PrintLast
theorem sumOf_l0 {B : Nat} (suf : List Int) : ∀ (pre : List Int) (s : Int) (k : Nat), suf.length < k → pre.length + suf.length < 4611686018427387904 → (∀ x ∈ suf, -(B : Int) ≤ x ∧ x ≤ B) →
    -4611686018427387904 ≤ s - ((suf.length * B : Nat) : Int) → s + ((suf.length * B : Nat) : Int) ≤ 4611686018427387904 → laws_sumOf.l0 k (pre ++ suf) s (pre.length : Int) = some (s + suf.sum) := by
  induction suf with
  | nil =>
    intro pre s k hk _ _ _ _
    obtain ⟨k, rfl⟩ : ∃ m, k = m + 1 := ⟨k - 1, by omega⟩
    simp [laws_sumOf.l0]
  | cons y suf ih =>
    intro pre s k hk hl hB h0 h1
    simp only [List.length_cons] at hk hl
    obtain ⟨k, rfl⟩ : ∃ m, k = m + 1 := ⟨k - 1, by omega⟩
    have hy := hB y List.mem_cons_self
    rw [List.length_cons, Nat.succ_mul] at h0 h1
    simp only [laws_sumOf.l0]
    rw [if_pos (len_mid _ _ _), if_pos (by omega), rd_mid, next_mid pre y (by omega), app_mid pre suf y, sw64 (x := s + y) (by omega) (by omega)]
    rw [ih (pre ++ [y]) (s + y) k (by omega) (by simp; omega) (fun x hx => hB x (List.mem_cons_of_mem _ hx)) (by omega) (by omega), List.sum_cons]
    congr 1; omega
theorem sumOf_eq (k : Nat) (B : Nat) (l : List Int) (hk : l.length < k) (hB : ∀ x ∈ l, -(B : Int) ≤ x ∧ x ≤ B) (hl : l.length ≤ 1000000) (hs : l.length * B ≤ 4611686018427387904) : laws_sumOf.f k l = some l.sum := by
  unfold laws_sumOf.f
  have := sumOf_l0 (B := B) l [] 0 k hk (by simp; omega) hB (by omega) (by omega)
  simpa using this
theorem sameInts_l0 (suf : List Int) : ∀ (pre : List Int) (k : Nat), suf.length < k → pre.length + suf.length < 4611686018427387904 → laws_sameInts.l0 k (pre ++ suf) (pre ++ suf) (pre.length : Int) = some true := by
  induction suf with
  | nil =>
    intro pre k hk _
    obtain ⟨k, rfl⟩ : ∃ m, k = m + 1 := ⟨k - 1, by omega⟩
    simp [laws_sameInts.l0]
  | cons y suf ih =>
    intro pre k hk hl
    simp only [List.length_cons] at hk hl
    obtain ⟨k, rfl⟩ : ∃ m, k = m + 1 := ⟨k - 1, by omega⟩
    simp only [laws_sameInts.l0]
    rw [if_pos (len_mid _ _ _), if_pos (by omega), if_pos (len_mid _ _ _), if_pos trivial, next_mid pre y (by omega), app_mid pre suf y]
    exact ih (pre ++ [y]) k (by omega) (by simp; omega)
theorem sameInts_self (k : Nat) (l : List Int) (hk : l.length < k) (hl : l.length ≤ 1000000000) : laws_sameInts.f k l l = some true := by
  unfold laws_sameInts.f
  rw [if_pos rfl]
  exact sameInts_l0 l [] k hk (by simp; omega)
end Go.Proofs.Ytfmjhckndlngaaa.Pure
