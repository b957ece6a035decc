/- Marking a list of lists, and holding a marked one against its marks. -/
import Derived.Test.YtimhiijedmfeaaaMats
import Derived.Test.YtimhiijedmfeaaaMarkInts
import Derived.Test.YtimhiijedmfeaaaQ11
import Derived.Test.YtimhiijedmfeaaaQ3
namespace Go.Proofs.Ytimhiijedmfeaaa.Pure
open Go.RowKit Go.Proofs.Ytimhiijedmfeaaa.Q Go.Proofs.YtimhiijedmfeaaaW.PrintWords Go.Proofs.YtimhiijedmfeaaaW.PrintLast Go.Proofs.YtimhiijedmfeaaaW.PrintMore
theorem markIntS_at (k : Nat) (l : List Int) (a : Int) (hk : l.length < k) (hl : l.length ≤ 1048576) (h0 : 0 ≤ a) (h1 : a ≤ 1000000000) : laws_markIntS.f k l a = some (a + l.length, asc a l.length) := by
  have := markIntS_l0 l [] a k hk (by simp; omega) (by omega) (by omega)
  simpa [laws_markIntS.f] using this
theorem heldIntS_at (k n : Nat) (a : Int) (hk : n < k) (hl : n ≤ 1048576) (h0 : 0 ≤ a) (h1 : a ≤ 1000000000) : laws_heldIntS.f k (asc a n) a = some (a + (n : Int)) := by
  have := heldIntS_l0 n [] a k hk (by simp; omega) (by omega) (by omega)
  simpa [laws_heldIntS.f] using this
/-- Rows of numbers that follow each other, as long as those of a list. -/
def ascS : Int → List (List Int) → List (List Int)
  | _, [] => []
  | a, r :: s => asc a r.length :: ascS (a + r.length) s
theorem ascS_length (l : List (List Int)) : ∀ a, (ascS a l).length = l.length := by
  induction l with
  | nil => intro a; rfl
  | cons r l ih => intro a; simp [ascS, ih]
/-- How many numbers. -/
def cnt : List (List Int) → Nat
  | [] => 0
  | r :: s => r.length + cnt s
theorem cnt_tot (l : List (List Int)) : cnt l ≤ tot l := by
  induction l with
  | nil => simp [cnt]
  | cons r l ih => simp only [cnt]; rw [tot_cons]; omega
theorem markIntSS_l0 (K : Nat) (suf : List (List Int)) : ∀ (pre : List (List Int)) (a : Int) (k : Nat), suf.length + K < k → pre.length + suf.length < 4611686018427387904 → (∀ r ∈ suf, r.length < K ∧ r.length ≤ 1048576) → 0 ≤ a → a + cnt suf ≤ 1000000000 →
    laws_markIntSS.l0 k (pre ++ suf) a (pre.length : Int) = some (a + cnt suf, pre ++ ascS a suf) := by
  induction suf with
  | nil =>
    intro pre a k hk _ _ _ _
    obtain ⟨k, rfl⟩ : ∃ m, k = m + 1 := ⟨k - 1, by omega⟩
    simp [laws_markIntSS.l0, ascS, cnt]
  | cons y suf ih =>
    intro pre a k hk hl hr h0 h1
    simp only [List.length_cons, cnt] at hk hl h1
    obtain ⟨k, rfl⟩ : ∃ m, k = m + 1 := ⟨k - 1, by omega⟩
    have hy := hr y List.mem_cons_self
    rw [laws_markIntSS.l0, if_pos (len_midM _ _ _), if_pos (by omega), rd_midM, markIntS_at k y a (by omega) (by omega) h0 (by omega)]
    simp only [Option.bind_some]
    rw [set_midM, next_midM pre y (by omega), app_midM pre suf (asc a y.length)]
    have e : ((pre ++ [y]).length : Int) = ((pre ++ [asc a y.length]).length : Int) := by simp
    rw [e, ih (pre ++ [asc a y.length]) (a + y.length) k (by omega) (by simp; omega) (fun r h => hr r (List.mem_cons_of_mem _ h)) (by omega) (by omega)]
    simp only [ascS, List.append_assoc, List.singleton_append, cnt]
    congr 2
    omega
theorem markIntSS_eq (k : Nat) (l : List (List Int)) (ht : tot l ≤ 1048576) (hk : 2100000 < k) : laws_markIntSS.f k l 1 = some (1 + (cnt l : Int), ascS 1 l) := by
  have := tot_len l
  have := cnt_tot l
  have := markIntSS_l0 1048576 l [] 1 k (by omega) (by simp; omega) (fun r h => by have := tot_mem h; omega) (by omega) (by omega)
  simpa [laws_markIntSS.f] using this
theorem heldIntSS_l0 (K : Nat) (suf : List (List Int)) : ∀ (pre : List (List Int)) (a : Int) (k : Nat), suf.length + K < k → pre.length + suf.length < 4611686018427387904 → (∀ r ∈ suf, r.length < K ∧ r.length ≤ 1048576) → 0 ≤ a → a + cnt suf ≤ 1000000000 →
    laws_heldIntSS.l0 k (pre ++ ascS a suf) a (pre.length : Int) = some (a + cnt suf) := by
  induction suf with
  | nil =>
    intro pre a k hk _ _ _ _
    obtain ⟨k, rfl⟩ : ∃ m, k = m + 1 := ⟨k - 1, by omega⟩
    simp [laws_heldIntSS.l0, ascS, cnt]
  | cons y suf ih =>
    intro pre a k hk hl hr h0 h1
    simp only [List.length_cons, cnt] at hk hl h1
    obtain ⟨k, rfl⟩ : ∃ m, k = m + 1 := ⟨k - 1, by omega⟩
    have hy := hr y List.mem_cons_self
    rw [show ascS a (y :: suf) = asc a y.length :: ascS (a + y.length) suf from rfl]
    rw [laws_heldIntSS.l0, if_pos (len_midM _ _ _), if_pos (by omega), rd_midM, heldIntS_at k y.length a (by omega) (by omega) h0 (by omega)]
    simp only [Option.bind_some]
    rw [if_neg (by omega), next_midM pre _ (by omega), app_midM pre _ (asc a y.length), ih (pre ++ [asc a y.length]) (a + y.length) k (by omega) (by simp; omega) (fun r h => hr r (List.mem_cons_of_mem _ h)) (by omega) (by omega)]
    simp only [cnt]
    congr 1
    omega
theorem heldIntSS_eq (k : Nat) (l : List (List Int)) (ht : tot l ≤ 1048576) (hk : 2100000 < k) : laws_heldIntSS.f k (ascS 1 l) 1 = some (1 + (cnt l : Int)) := by
  have := tot_len l
  have := cnt_tot l
  have := heldIntSS_l0 1048576 l [] 1 k (by omega) (by simp; omega) (fun r h => by have := tot_mem h; omega) (by omega) (by omega)
  simpa [laws_heldIntSS.f] using this
end Go.Proofs.Ytimhiijedmfeaaa.Pure
