/- Marking a list of integers, and holding a marked one against its marks. -/
import Derived.Test.YtfmjhckndlngaaaInts
import Derived.Test.YtfmjhckndlngaaaQ3
namespace Go.Proofs.Ytfmjhckndlngaaa.Pure
open Go.RowKit Go.Proofs.Ytfmjhckndlngaaa.Q Go.Proofs.YtfmjhckndlngaaaW.PrintWords Go.Proofs.YtfmjhckndlngaaaW.PrintLast Go.Proofs.YtfmjhckndlngaaaW.PrintMore
/-- So many numbers that follow each other. -/
def asc : Int → Nat → List Int
  | _, 0 => []
  | a, n + 1 => a :: asc (a + 1) n
theorem asc_length (n : Nat) : ∀ a, (asc a n).length = n := by
  induction n with
  | zero => intro a; rfl
  | succ n ih => intro a; simp [asc, ih]
theorem mw64 {x : Int} (h0 : -9223372036854775808 ≤ x) (h1 : x ≤ 9223372036854775807) : wrap64 x = x := by unfold wrap64; omega
theorem markIntS_l0 (suf : List Int) : ∀ (pre : List Int) (a : Int) (k : Nat), suf.length < k → pre.length + suf.length < 4611686018427387904 → 0 ≤ a → a + suf.length < 4611686018427387904 →
    laws_markIntS.l0 k (pre ++ suf) a (pre.length : Int) = some (a + suf.length, pre ++ asc a suf.length) := by
  induction suf with
  | nil =>
    intro pre a k hk _ _ _
    obtain ⟨k, rfl⟩ : ∃ m, k = m + 1 := ⟨k - 1, by omega⟩
    simp [laws_markIntS.l0, asc]
  | cons y suf ih =>
    intro pre a k hk hl h0 h1
    simp only [List.length_cons] at hk hl h1
    obtain ⟨k, rfl⟩ : ∃ m, k = m + 1 := ⟨k - 1, by omega⟩
    simp only [laws_markIntS.l0]
    rw [if_pos (len_mid _ _ _), if_pos (by omega), set_mid, next_mid pre y (by omega), mw64 (x := a + 1) (by omega) (by omega), app_mid pre suf a]
    have := ih (pre ++ [a]) (a + 1) k (by omega) (by simp; omega) (by omega) (by omega)
    have e : ((pre ++ [y]).length : Int) = ((pre ++ [a]).length : Int) := by simp
    rw [e, this]
    simp only [List.length_cons, asc, List.append_assoc, List.singleton_append]
    congr 2
    omega
theorem markIntS_eq (k : Nat) (l : List Int) (hk : l.length < k) (hl : l.length ≤ 1000000000) : laws_markIntS.f k l 1 = some (1 + (l.length : Int), asc 1 l.length) := by
  have := markIntS_l0 l [] 1 k hk (by simp; omega) (by omega) (by omega)
  simpa [laws_markIntS.f] using this
theorem heldIntS_l0 (n : Nat) : ∀ (pre : List Int) (a : Int) (k : Nat), n < k → pre.length + n < 4611686018427387904 → 0 ≤ a → a + n < 4611686018427387904 →
    laws_heldIntS.l0 k (pre ++ asc a n) a (pre.length : Int) = some (a + n) := by
  induction n with
  | zero =>
    intro pre a k hk _ _ _
    obtain ⟨k, rfl⟩ : ∃ m, k = m + 1 := ⟨k - 1, by omega⟩
    simp [laws_heldIntS.l0, asc]
  | succ n ih =>
    intro pre a k hk hl h0 h1
    obtain ⟨k, rfl⟩ : ∃ m, k = m + 1 := ⟨k - 1, by omega⟩
    rw [show asc a (n + 1) = a :: asc (a + 1) n from rfl]
    simp only [laws_heldIntS.l0]
    rw [if_pos (len_mid _ _ _), if_pos (by omega), rd_mid, if_pos rfl, next_mid pre a (by omega), mw64 (x := a + 1) (by omega) (by omega), app_mid pre _ a, ih (pre ++ [a]) (a + 1) k (by omega) (by simp; omega) (by omega) (by omega)]
    congr 1
    omega
theorem heldIntS_eq (k n : Nat) (hk : n < k) (hl : n ≤ 1000000000) : laws_heldIntS.f k (asc 1 n) 1 = some (1 + (n : Int)) := by
  have := heldIntS_l0 n [] 1 k hk (by simp; omega) (by omega) (by omega)
  simpa [laws_heldIntS.f] using this
end Go.Proofs.Ytfmjhckndlngaaa.Pure
