/- Lists of lists of integers: what the laws' helpers answer, and whether the reference takes a matrix for valid (chapter 21). -/
import Derived.Test.YtimhiijedmfeaaaMatsI
import Derived.Test.YtimhiijedmfeaaaQ1
import Derived.Test.YtimhiijedmfeaaaQ5
import Derived.Test.YtimhiijedmfeaaaQ7
namespace Go.Proofs.Ytimhiijedmfeaaa.Pure
open Go.RowKit Go.Proofs.Ytimhiijedmfeaaa.Q Go.Proofs.YtimhiijedmfeaaaW.PrintWords Go.Proofs.YtimhiijedmfeaaaW.PrintLast Go.Proofs.YtimhiijedmfeaaaW.PrintMore

/-- How many numbers stand in rows, and how many rows there are. -/
def tot (l : List (List Int)) : Nat := (l.map (fun r => r.length + 1)).sum
theorem tot_cons (r : List Int) (l : List (List Int)) : tot (r :: l) = r.length + 1 + tot l := by simp [tot]
theorem tot_len (l : List (List Int)) : l.length ≤ tot l := by
  induction l with
  | nil => simp [tot]
  | cons r l ih => rw [tot_cons, List.length_cons]; omega
theorem tot_mem {l : List (List Int)} {r : List Int} (h : r ∈ l) : r.length < tot l := by
  induction l with
  | nil => cases h
  | cons y l ih =>
    rw [tot_cons]
    rcases List.mem_cons.1 h with rfl | h
    · omega
    · have := ih h; omega

theorem szIntS_eq (l : List Int) (a : Int) (h : l.length ≤ maxLen) (h0 : 0 ≤ a) (h1 : a ≤ 1048576) : laws_szIntS.f l a = some (if (l.length : Int) ≤ a then a - l.length else -1) := by
  unfold maxLen at h
  unfold laws_szIntS.f
  rw [tw64 (by omega) (by omega)]
  by_cases q : (l.length : Int) ≤ a
  · rw [if_neg (by omega), if_pos q]
  · rw [if_pos (by omega), if_neg q]
theorem szIntSS_l0 (suf : List (List Int)) : ∀ (pre : List (List Int)) (a : Int) (k : Nat), suf.length < k → pre.length + suf.length ≤ 1048576 → 0 ≤ a → a ≤ 1048576 → (∀ r ∈ suf, r.length ≤ maxLen) →
    ∃ c, laws_szIntSS.l0 k (pre ++ suf) a (pre.length : Int) = some c ∧ (0 ≤ c → (tot suf : Int) ≤ a + suf.length) := by
  induction suf with
  | nil =>
    intro pre a k hk _ h0 _ _
    obtain ⟨k, rfl⟩ : ∃ m, k = m + 1 := ⟨k - 1, by omega⟩
    refine ⟨a, by simp [laws_szIntSS.l0], fun _ => by simp [tot]; omega⟩
  | cons y suf ih =>
    intro pre a k hk hl h0 h1 hr
    simp only [List.length_cons] at hk hl
    obtain ⟨k, rfl⟩ : ∃ m, k = m + 1 := ⟨k - 1, by omega⟩
    rw [laws_szIntSS.l0, if_pos (len_midM _ _ _), if_pos (by omega), rd_midM, szIntS_eq y a (hr y List.mem_cons_self) h0 h1]
    simp only [Option.bind_some]
    by_cases q : (y.length : Int) ≤ a
    · rw [if_pos q, if_neg (by omega), next_midM pre y (by omega), app_midM pre suf y]
      obtain ⟨c, hc, hq⟩ := ih (pre ++ [y]) (a - y.length) k (by omega) (by simp; omega) (by omega) (by omega) (fun r h => hr r (List.mem_cons_of_mem _ h))
      refine ⟨c, hc, fun h => ?_⟩
      have := hq h
      rw [tot_cons, List.length_cons]
      omega
    · rw [if_neg q, if_pos (by omega)]
      exact ⟨-1, rfl, fun h => by omega⟩
theorem szIntSS_ok (k : Nat) (l : List (List Int)) (hk : 1048577 < k) (h : l.length ≤ maxLen) (hr : ∀ r ∈ l, r.length ≤ maxLen) :
    ∃ c, laws_szIntSS.f k l 1048576 = some c ∧ (0 ≤ c → tot l ≤ 1048576) := by
  have h' := h
  unfold maxLen at h'
  unfold laws_szIntSS.f
  rw [tw64 (by omega) (by omega)]
  by_cases q : (1048576 : Int) - l.length < 0
  · rw [if_pos q]; exact ⟨-1, rfl, fun h => by omega⟩
  · rw [if_neg q]
    obtain ⟨c, hc, hq⟩ := szIntSS_l0 l [] (1048576 - l.length) k (by omega) (by simp; omega) (by omega) (by omega) hr
    exact ⟨c, by simpa using hc, fun h => by have := hq h; omega⟩

theorem toIntSS_l0 (K : Nat) (suf : List (List Int)) : ∀ (pre : List (List Int)) (k : Nat), suf.length + K < k → pre.length + suf.length < 4611686018427387904 → (∀ r ∈ suf, r.length < K ∧ r.length ≤ 1048576) →
    laws_toIntSS.l0 k (pre ++ suf) (pre ++ List.replicate suf.length []) (pre.length : Int) = some (pre ++ suf) := by
  induction suf with
  | nil =>
    intro pre k hk _ _
    obtain ⟨k, rfl⟩ : ∃ m, k = m + 1 := ⟨k - 1, by omega⟩
    simp [laws_toIntSS.l0]
  | cons y suf ih =>
    intro pre k hk hl hr
    simp only [List.length_cons] at hk hl
    obtain ⟨k, rfl⟩ : ∃ m, k = m + 1 := ⟨k - 1, by omega⟩
    have hy := hr y List.mem_cons_self
    simp only [List.length_cons, List.replicate_succ]
    rw [laws_toIntSS.l0, if_pos (len_midM _ _ _), if_pos (by omega), rd_midM, toIntS_eq k y (by omega) (by omega)]
    simp only [Option.bind_some]
    rw [if_pos (len_midM _ _ _), set_midM, next_midM pre y (by omega), app_midM pre suf y, app_midM pre (List.replicate suf.length []) y]
    exact ih (pre ++ [y]) k (by omega) (by simp; omega) (fun r h => hr r (List.mem_cons_of_mem _ h))
theorem toIntSS_eq (k : Nat) (l : List (List Int)) (ht : tot l ≤ 1048576) (hk : 2100000 < k) : laws_toIntSS.f k l = some l := by
  have := tot_len l
  unfold laws_toIntSS.f
  rw [if_pos (by omega), if_pos (by omega), Int.toNat_natCast]
  have := toIntSS_l0 1048576 l [] k (by omega) (by simp; omega) (fun r h => by have := tot_mem h; omega)
  simpa using this
theorem eqIntSS_l0 (K : Nat) (suf : List (List Int)) : ∀ (pre : List (List Int)) (k : Nat), suf.length + K < k → pre.length + suf.length < 4611686018427387904 → (∀ r ∈ suf, r.length < K ∧ r.length ≤ 1048576) →
    laws_eqIntSS.l0 k (pre ++ suf) (pre ++ suf) (pre.length : Int) = some true := by
  induction suf with
  | nil =>
    intro pre k hk _ _
    obtain ⟨k, rfl⟩ : ∃ m, k = m + 1 := ⟨k - 1, by omega⟩
    simp [laws_eqIntSS.l0]
  | cons y suf ih =>
    intro pre k hk hl hr
    simp only [List.length_cons] at hk hl
    obtain ⟨k, rfl⟩ : ∃ m, k = m + 1 := ⟨k - 1, by omega⟩
    have hy := hr y List.mem_cons_self
    rw [laws_eqIntSS.l0, if_pos (len_midM _ _ _), if_pos (by omega), if_pos (len_midM _ _ _), rd_midM, eqIntS_self k y (by omega) (by omega)]
    simp only [Option.bind_some]
    rw [if_pos trivial, next_midM pre y (by omega), app_midM pre suf y]
    exact ih (pre ++ [y]) k (by omega) (by simp; omega) (fun r h => hr r (List.mem_cons_of_mem _ h))
theorem eqIntSS_self (k : Nat) (l : List (List Int)) (ht : tot l ≤ 1048576) (hk : 2100000 < k) : laws_eqIntSS.f k l l = some true := by
  have := tot_len l
  unfold laws_eqIntSS.f
  rw [if_pos rfl]
  have := eqIntSS_l0 1048576 l [] k (by omega) (by simp; omega) (fun r h => by have := tot_mem h; omega)
  simpa using this

theorem spec_MatValid_l1 {l : List (List Int)} {i : Nat} (hi : i < l.length) (suf : List Int) : ∀ (pre : List Int) (k : Nat), rd_L1 l (i : Int) = pre ++ suf → (rd_L1 l (i : Int)).length ≤ 1048576 →
    spec_MatValid.l1 (k + suf.length + 1) l (i : Int) (pre.length : Int) = if inB 1000 suf = true then spec_MatValid.l0 k l (wrap64 ((i : Int) + 1)) else some false := by
  induction suf with
  | nil =>
    intro pre k he _
    rw [List.append_nil] at he
    rw [List.length_nil, Nat.add_zero, spec_MatValid.l1, if_pos (by omega), if_pos (by omega), he, if_neg (by omega), if_pos (by rfl)]
  | cons y suf ih =>
    intro pre k he hl
    have hlen : (rd_L1 l (i : Int)).length = pre.length + suf.length + 1 := by rw [he]; simp; omega
    have hy : rd (rd_L1 l (i : Int)) (pre.length : Int) = y := by rw [he]; exact rd_mid pre suf y
    rw [List.length_cons, ← Nat.add_assoc, spec_MatValid.l1, if_pos (by omega), if_pos (by omega), if_pos (by omega), if_pos (by omega), hy, m6In_eq]
    simp only [Option.bind_some]
    by_cases h : -1000 ≤ y ∧ y ≤ 1000
    · rw [if_pos (by simpa using h), next_mid pre y (by omega), ih (pre ++ [y]) k (by rw [he]; simp) hl]
      have e : inB 1000 (y :: suf) = inB 1000 suf := by unfold inB; rw [List.all_cons, decide_eq_true h, Bool.true_and]
      rw [e]
    · have e : inB 1000 (y :: suf) = false := by unfold inB; rw [List.all_cons, decide_eq_false h, Bool.false_and]
      rw [if_neg (by simpa using h), e, if_neg (by simp)]
theorem spec_MatValid_l0 {l : List (List Int)} (ht : tot l ≤ 1048576) (suf : List (List Int)) : ∀ (pre : List (List Int)) (k : Nat), tot suf + suf.length < k → l = pre ++ suf →
    spec_MatValid.l0 k l (pre.length : Int) = some (suf.all (rowB l.length) && decide (1 ≤ l.length ∧ l.length ≤ 5)) := by
  have htl := tot_len l
  induction suf with
  | nil =>
    intro pre k hk he
    obtain ⟨k, rfl⟩ : ∃ m, k = m + 1 := ⟨k - 1, by omega⟩
    rw [List.append_nil] at he
    subst he
    rw [spec_MatValid.l0, if_neg (by omega), m6In_eq]
    simp only [Option.bind_some, List.all_nil, Bool.true_and]
    congr 1; rw [decide_eq_decide]; omega
  | cons y suf ih =>
    intro pre k hk he
    rw [tot_cons, List.length_cons] at hk
    obtain ⟨k, rfl⟩ : ∃ m, k = (m + y.length + 1) + 1 := ⟨k - y.length - 2, by omega⟩
    have hlen : l.length = pre.length + suf.length + 1 := by rw [he]; simp; omega
    have hy : rd_L1 l (pre.length : Int) = y := by rw [he]; exact rd_midM pre suf y
    have hyl := tot_mem (l := l) (r := y) (by rw [he]; simp)
    rw [spec_MatValid.l0, if_pos (by omega), if_pos (by omega), hy]
    simp only [List.all_cons]
    by_cases h : (y.length : Int) = l.length
    · rw [if_pos h]
      have := spec_MatValid_l1 (l := l) (i := pre.length) (by omega) y [] k (by rw [hy]; rfl) (by rw [hy]; omega)
      simp only [List.length_nil] at this
      rw [show ((0 : Nat) : Int) = 0 from rfl] at this
      rw [this, next_midM pre y (by omega)]
      by_cases hb : inB 1000 y = true
      · have e : rowB (l.length : Int) y = true := by unfold rowB; rw [decide_eq_true h, hb]; rfl
        rw [if_pos hb, e, Bool.true_and]
        exact ih (pre ++ [y]) k (by omega) (by rw [he]; simp)
      · have e : rowB (l.length : Int) y = false := by unfold rowB; rw [Bool.eq_false_iff.2 hb]; simp
        rw [if_neg hb, e]; simp
    · have e : rowB (l.length : Int) y = false := by unfold rowB; rw [decide_eq_false h]; rfl
      rw [if_neg h, e]; simp
theorem spec_MatValid_eq (k : Nat) (l : List (List Int)) (ht : tot l ≤ 1048576) (hk : tot l + l.length < k) : spec_MatValid.f k l = some (mvB l) := by
  unfold spec_MatValid.f mvB
  have := spec_MatValid_l0 ht l [] k hk rfl
  rw [Bool.and_comm] at this
  simpa using this
end Go.Proofs.Ytimhiijedmfeaaa.Pure
