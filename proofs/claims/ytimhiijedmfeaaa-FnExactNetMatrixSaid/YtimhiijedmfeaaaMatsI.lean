/- Lists of lists of integers, and whether the program takes a matrix for valid (chapter 21). -/
import Derived.Test.YtimhiijedmfeaaaInts
import Derived.Test.YtimhiijedmfeaaaQ1
import Derived.Test.YtimhiijedmfeaaaQ2
import Derived.Test.YtimhiijedmfeaaaQ6
namespace Go.Proofs.Ytimhiijedmfeaaa.Pure
open Go.RowKit Go.Proofs.Ytimhiijedmfeaaa.Q Go.Proofs.YtimhiijedmfeaaaW.PrintWords Go.Proofs.YtimhiijedmfeaaaW.PrintLast Go.Proofs.YtimhiijedmfeaaaW.PrintMore

theorem tw64 {x : Int} (h0 : -9223372036854775808 ≤ x) (h1 : x ≤ 9223372036854775807) : wrap64 x = x := by unfold wrap64; omega
section
variable {α : Type} (pre suf : List α) (y : α)
theorem len_midM : (pre.length : Int) < ((pre ++ y :: suf).length : Int) := by simp; omega
theorem app_midM : pre ++ y :: suf = (pre ++ [y]) ++ suf := by simp
theorem next_midM (h : pre.length < 4611686018427387904) : wrap64 ((pre.length : Int) + 1) = ((pre ++ [y]).length : Int) := by
  unfold wrap64; simp; omega
theorem set_midM (z : α) : (pre ++ y :: suf).set ((pre.length : Int)).toNat z = pre ++ z :: suf := by simp
end
theorem rd_midM (pre suf : List (List Int)) (y : List Int) : rd_L1 (pre ++ y :: suf) (pre.length : Int) = y := by simp [rd_L1]

theorem m6In_eq (a b c : Int) : spec_l6In.f a b c = some (decide (b ≤ a ∧ a ≤ c)) := by
  unfold spec_l6In.f
  by_cases h : a ≥ b
  · rw [if_pos h]; congr 1; rw [decide_eq_decide]; omega
  · rw [if_neg h]; congr 1; symm; rw [decide_eq_false_iff_not]; omega
theorem mwithin_eq (a m : Int) (h0 : 0 ≤ m) (h1 : m ≤ 9223372036854775807) : impl_within.f a m = some (decide (-m ≤ a ∧ a ≤ m)) := by
  unfold impl_within.f
  rw [tw64 (by omega) (by omega)]
  by_cases h : -m ≤ a
  · rw [if_pos h]; congr 1; rw [decide_eq_decide]; omega
  · rw [if_neg h]; congr 1; symm; rw [decide_eq_false_iff_not]; omega
/-- All numbers of a list are in range. -/
def inB (m : Int) (l : List Int) : Bool := l.all fun x => decide (-m ≤ x ∧ x ≤ m)
theorem inB_iff {m : Int} {l : List Int} : inB m l = true ↔ ∀ x ∈ l, -m ≤ x ∧ x ≤ m := by
  unfold inB; rw [List.all_eq_true]; simp only [decide_eq_true_eq]
theorem listValid_l0 {m : Int} (hm : 0 ≤ m ∧ m ≤ 1000000000) (suf : List Int) : ∀ (pre : List Int) (k : Nat), suf.length < k → pre.length + suf.length < 4611686018427387904 →
    impl_listValid.l0 k m (pre ++ suf) ((pre ++ suf).length : Int) (pre.length : Int) = some (inB m suf) := by
  induction suf with
  | nil =>
    intro pre k hk _
    obtain ⟨k, rfl⟩ : ∃ m, k = m + 1 := ⟨k - 1, by omega⟩
    simp [impl_listValid.l0, inB]
  | cons y suf ih =>
    intro pre k hk hl
    simp only [List.length_cons] at hk hl
    obtain ⟨k, rfl⟩ : ∃ m, k = m + 1 := ⟨k - 1, by omega⟩
    rw [impl_listValid.l0, if_pos (len_mid _ _ _), if_pos (by omega), if_pos (len_mid _ _ _), rd_mid, mwithin_eq _ _ hm.1 (by omega)]
    simp only [Option.bind_some, inB, List.all_cons]
    by_cases h : -m ≤ y ∧ y ≤ m
    · rw [if_pos (by simpa using h), next_mid pre y (by omega), app_mid pre suf y, ih (pre ++ [y]) k (by omega) (by simp; omega), decide_eq_true h, Bool.true_and]; rfl
    · rw [if_neg (by simpa using h), decide_eq_false h, Bool.false_and]
theorem listValid_eq (k : Nat) (l : List Int) (n m : Int) (hm : 0 ≤ m ∧ m ≤ 1000000000) (hn : n < k) (_hk : 1 < k) (hl : l.length ≤ 1048576) : impl_listValid.f k l n m = some (decide ((l.length : Int) = n) && inB m l) := by
  unfold impl_listValid.f
  by_cases h : (l.length : Int) = n
  · rw [if_pos h, decide_eq_true h, Bool.true_and]
    have := listValid_l0 hm l [] k (by omega) (by simp; omega)
    simpa using this
  · rw [if_neg h, decide_eq_false h, Bool.false_and]
/-- A valid row of a matrix with n rows. -/
def rowB (n : Int) (r : List Int) : Bool := decide ((r.length : Int) = n) && inB 1000 r
/-- A valid matrix. -/
def mvB (l : List (List Int)) : Bool := decide (1 ≤ l.length ∧ l.length ≤ 5) && l.all (rowB l.length)
theorem mvB_iff {l : List (List Int)} : mvB l = true ↔ (1 ≤ l.length ∧ l.length ≤ 5) ∧ ∀ r ∈ l, r.length = l.length ∧ ∀ x ∈ r, -1000 ≤ x ∧ x ≤ 1000 := by
  unfold mvB
  rw [Bool.and_eq_true, decide_eq_true_eq, List.all_eq_true]
  simp only [rowB, Bool.and_eq_true, decide_eq_true_eq, inB_iff]
  constructor
  · intro h; exact ⟨h.1, fun r hr => ⟨by have := (h.2 r hr).1; omega, (h.2 r hr).2⟩⟩
  · intro h; exact ⟨h.1, fun r hr => ⟨by have := (h.2 r hr).1; omega, (h.2 r hr).2⟩⟩
theorem impl_MatValid_l0 {l : List (List Int)} (h5 : l.length ≤ 5) (suf : List (List Int)) : ∀ (pre : List (List Int)) (k : Nat), suf.length + 10 < k → l = pre ++ suf → (∀ r ∈ suf, r.length ≤ 1048576) →
    impl_MatValid.l0 k l l (l.length : Int) (pre.length : Int) = some (suf.all (rowB l.length)) := by
  induction suf with
  | nil =>
    intro pre k hk he _
    obtain ⟨k, rfl⟩ : ∃ m, k = m + 1 := ⟨k - 1, by omega⟩
    rw [List.append_nil] at he
    subst he
    rw [impl_MatValid.l0, if_neg (by omega)]; rfl
  | cons y suf ih =>
    intro pre k hk he hr
    simp only [List.length_cons] at hk
    obtain ⟨k, rfl⟩ : ∃ m, k = m + 1 := ⟨k - 1, by omega⟩
    have hlen : l.length = pre.length + suf.length + 1 := by rw [he]; simp; omega
    have hy : rd_L1 l (pre.length : Int) = y := by rw [he]; exact rd_midM pre suf y
    rw [impl_MatValid.l0, if_pos (by omega), if_pos (by omega), if_pos (by omega), hy, listValid_eq k y l.length 1000 (by omega) (by omega) (by omega) (hr y List.mem_cons_self)]
    simp only [Option.bind_some, List.all_cons]
    change (if rowB (l.length : Int) y = true then _ else _) = _
    by_cases h : rowB (l.length : Int) y = true
    · rw [if_pos h, next_midM pre y (by omega), ih (pre ++ [y]) k (by omega) (by rw [he]; simp) (fun r hm => hr r (List.mem_cons_of_mem _ hm)), h, Bool.true_and]
    · rw [if_neg h, Bool.eq_false_iff.2 h, Bool.false_and]
theorem impl_MatValid_eq (k : Nat) (l : List (List Int)) (hk : 20 < k) (hr : ∀ r ∈ l, r.length ≤ 1048576) : impl_MatValid.f k l = some (mvB l) := by
  obtain ⟨k, rfl⟩ : ∃ m, k = m + 1 := ⟨k - 1, by omega⟩
  unfold impl_MatValid.f mvB
  by_cases h1 : (l.length : Int) < 1
  · rw [if_pos h1, decide_eq_false (by omega)]; simp [impl_MatValid.j0]
  · rw [if_neg h1]
    simp only [impl_MatValid.j0]
    by_cases h2 : (l.length : Int) > 5
    · rw [if_pos (by simpa using h2), decide_eq_false (by omega)]; simp
    · rw [if_neg (by simpa using h2), decide_eq_true (by omega), Bool.true_and]
      have := impl_MatValid_l0 (l := l) (by omega) l [] k (by omega) rfl hr
      simpa using this
end Go.Proofs.Ytimhiijedmfeaaa.Pure
