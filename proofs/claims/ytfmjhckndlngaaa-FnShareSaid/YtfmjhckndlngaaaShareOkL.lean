/- What ShareOk answers, in closed form. -/
import Derived.Test.YtfmjhckndlngaaaShares
import Derived.Test.YtfmjhckndlngaaaQ7
import Derived.Test.YtfmjhckndlngaaaQ8
namespace Go.Proofs.Ytfmjhckndlngaaa.Pure
open Go.RowKit Go.Proofs.Ytfmjhckndlngaaa.Q Go.Proofs.YtfmjhckndlngaaaW.PrintWords Go.Proofs.YtfmjhckndlngaaaW.PrintLast
/-- Whether shares (from index i on) are near the exact ones. -/
def nearB (l : List Int) (a : Int) : List Int → Nat → Bool
  | [], _ => true
  | y :: s, i => decide ((y * l.sum - a * rd l i).natAbs < l.sum) && nearB l a s (i + 1)
/-- What ShareOk answers. -/
def okR (l : List Int) (a : Int) (s : List Int) : Bool := decide (AV l a ∧ s.length = l.length ∧ nearB l a s 0 = true ∧ s.sum = a)

/-- A near share of a valid amount is not far from 0. -/
theorem near_small {l : List Int} {a y : Int} (h : AV l a) {i : Nat} (hi : i < l.length) (hy : ((y * l.sum - a * rd l i).natAbs : Int) < l.sum) : -10000000 ≤ y ∧ y ≤ 10000000 := by
  have hs := h.1.sum
  have hr := h.1.at_ i
  have hle : rd l i ≤ l.sum := by
    have e : rd l (i : Int) = l[i] := by simp [rd, hi]
    have key : ∀ (m : List Int), (∀ x ∈ m, 0 ≤ x) → ∀ x ∈ m, x ≤ m.sum := by
      intro m
      induction m with
      | nil => intro _ x hx; cases hx
      | cons z m ih =>
        intro h0 x hx
        rw [List.sum_cons]
        have hm : 0 ≤ m.sum := by
          clear ih hx
          have h0' := fun x hx => h0 x (List.mem_cons_of_mem _ hx)
          clear h0
          induction m with
          | nil => simp
          | cons u m ih => rw [List.sum_cons]; have := h0' u List.mem_cons_self; have := ih (fun x hx => h0' x (List.mem_cons_of_mem _ hx)); omega
        rcases List.mem_cons.1 hx with rfl | hx
        · omega
        · have := ih (fun x hx => h0 x (List.mem_cons_of_mem _ hx)) x hx
          have := h0 z List.mem_cons_self
          omega
    rw [e]
    exact key l (fun x hx => (h.1.1 x hx).1) _ (List.getElem_mem hi)
  have ha := h.2
  constructor
  · rcases Int.lt_or_le y (-10000000) with q | q
    · have h1 : (y + 10000000) * l.sum ≤ -1 * l.sum := Int.mul_le_mul_of_nonneg_right (by omega) (by omega)
      have h2 : -10000000 * rd l i ≤ a * rd l i := Int.mul_le_mul_of_nonneg_right (by omega) hr.1
      rw [Int.add_mul] at h1
      omega
    · exact q
  · rcases Int.lt_or_le 10000000 y with q | q
    · have h1 : 1 * l.sum ≤ (y - 10000000) * l.sum := Int.mul_le_mul_of_nonneg_right (by omega) (by omega)
      have h2 : a * rd l i ≤ 10000000 * rd l i := Int.mul_le_mul_of_nonneg_right (by omega) hr.1
      rw [Int.sub_mul] at h1
      omega
    · exact q

theorem spec_Ok_l0 {l : List Int} {a : Int} (h : AV l a) (suf : List Int) : ∀ (pre : List Int) (n : Int) (k : Nat), suf.length < k → pre.length + suf.length = l.length → -(20000000 * (pre.length : Int)) ≤ n → n ≤ 20000000 * (pre.length : Int) →
    spec_ShareOk.l0 k l a (pre ++ suf) l.sum n (pre.length : Int) = some (nearB l a suf pre.length && (n + suf.sum == a)) := by
  have h20 := h.1.2.2.1
  induction suf with
  | nil =>
    intro pre n k hk hl _ _
    obtain ⟨k, rfl⟩ : ∃ m, k = m + 1 := ⟨k - 1, by omega⟩
    simp [spec_ShareOk.l0, nearB]
  | cons y suf ih =>
    intro pre n k hk hl hn0 hn1
    simp only [List.length_cons] at hk hl
    obtain ⟨k, rfl⟩ : ∃ m, k = m + 1 := ⟨k - 1, by omega⟩
    simp only [spec_ShareOk.l0, s6In_eq, Option.bind_some]
    rw [if_pos (len_mid _ _ _), if_pos (by omega), rd_mid]
    by_cases hy : -20000000 ≤ y ∧ y ≤ 20000000
    · have hd := diff_bd h hy (pre.length : Int)
      rw [if_pos (by simpa using hy), if_pos (by omega), hd.2.2, ssize_eq (by omega) (by omega)]
      simp only [Option.bind_some]
      by_cases hn : ((y * l.sum - a * rd l (pre.length : Int)).natAbs : Int) ≥ l.sum
      · rw [if_pos hn]; simp only [nearB]; rw [decide_eq_false (by omega)]; rfl
      · rw [if_neg hn, next_mid pre y (by omega), app_mid pre suf y, sw64 (by omega) (by omega), ih (pre ++ [y]) _ k (by omega) (by simp; omega) (by simp; omega) (by simp; omega)]
        simp only [nearB, List.length_append, List.length_singleton, List.sum_cons]
        rw [decide_eq_true (show ((y * l.sum - a * rd l (pre.length : Int)).natAbs : Int) < l.sum by omega), Bool.true_and, Int.add_assoc]
    · rw [if_neg (by simpa using hy)]
      simp only [nearB]
      rw [decide_eq_false (fun q => hy (by have := near_small h (i := pre.length) (by omega) q; omega))]; rfl
theorem impl_Ok_l0 {l : List Int} {a : Int} (h : AV l a) (suf : List Int) : ∀ (pre : List Int) (n : Int) (k : Nat), suf.length < k → pre.length + suf.length = l.length → -(20000000 * (pre.length : Int)) ≤ n → n ≤ 20000000 * (pre.length : Int) →
    impl_ShareOk.l0 k l a l.sum n (pre ++ suf) ((pre ++ suf).length : Int) (pre.length : Int) = some (nearB l a suf pre.length && (n + suf.sum == a)) := by
  have h20 := h.1.2.2.1
  induction suf with
  | nil =>
    intro pre n k hk hl _ _
    obtain ⟨k, rfl⟩ : ∃ m, k = m + 1 := ⟨k - 1, by omega⟩
    simp [impl_ShareOk.l0, nearB]
  | cons y suf ih =>
    intro pre n k hk hl hn0 hn1
    simp only [List.length_cons] at hk hl
    obtain ⟨k, rfl⟩ : ∃ m, k = m + 1 := ⟨k - 1, by omega⟩
    simp only [impl_ShareOk.l0]
    rw [if_pos (len_mid _ _ _), if_pos (by omega), if_pos (len_mid _ _ _), rd_mid, swithin_eq _ _ (by omega) (by omega)]
    simp only [Option.bind_some]
    by_cases hy : -10000000 ≤ y ∧ y ≤ 10000000
    · have hd := diff_bd h (y := y) (by omega) (pre.length : Int)
      rw [if_pos (by simpa using hy), if_pos (by omega), hd.2.2, sabs_eq (by omega) (by omega)]
      simp only [Option.bind_some]
      by_cases hn : ((y * l.sum - a * rd l (pre.length : Int)).natAbs : Int) ≥ l.sum
      · rw [if_pos hn]; simp only [nearB]; rw [decide_eq_false (by omega)]; rfl
      · rw [if_neg hn, next_mid pre y (by omega), app_mid pre suf y, sw64 (by omega) (by omega), ih (pre ++ [y]) _ k (by omega) (by simp; omega) (by simp; omega) (by simp; omega)]
        simp only [nearB, List.length_append, List.length_singleton, List.sum_cons]
        rw [decide_eq_true (show ((y * l.sum - a * rd l (pre.length : Int)).natAbs : Int) < l.sum by omega), Bool.true_and, Int.add_assoc]
    · rw [if_neg (by simpa using hy)]
      simp only [nearB]
      rw [decide_eq_false (fun q => hy (near_small h (i := pre.length) (by omega) q))]; rfl

theorem okR_yes {l : List Int} {a : Int} {s : List Int} (h : AV l a) (hs : s.length = l.length) : okR l a s = (nearB l a s 0 && (0 + s.sum == a)) := by
  unfold okR
  rw [Bool.eq_iff_iff, decide_eq_true_eq, Bool.and_eq_true, beq_iff_eq, Int.zero_add]
  exact ⟨fun q => q.2.2, fun q => ⟨h, hs, q⟩⟩
theorem spec_ShareOk_eq (k : Nat) (l : List Int) (a : Int) (s : List Int) (hk : 2 * l.length + 100 < k) (hl : l.length ≤ 1048576) : spec_ShareOk.f k l a s = some (okR l a s) := by
  obtain ⟨k, rfl⟩ : ∃ m, k = m + 1 := ⟨k - 1, by omega⟩
  simp only [spec_ShareOk.f, l14Ok_eq (k + 1) l a (by omega) hl, Option.bind_some, spec_ShareOk.j0]
  by_cases h : AV l a
  · rw [if_pos (by simpa using h)]
    by_cases hs : s.length = l.length
    · have h20 := h.1.2.2.1
      rw [if_neg (by simp [hs]), l14Sum_eq k 10000 l (by omega) (fun x hx => by have := h.1.1 x hx; omega) (by omega) (by omega), okR_yes h hs]
      simp only [Option.bind_some]
      have := spec_Ok_l0 h s [] 0 k (by omega) (by simp; omega) (by simp) (by simp)
      simpa using this
    · rw [if_pos (by simp; omega)]; congr 1; symm; unfold okR; rw [decide_eq_false_iff_not]; exact fun q => hs q.2.1
  · rw [if_neg (by simpa using h), if_pos trivial]; congr 1; symm; unfold okR; rw [decide_eq_false_iff_not]; exact fun q => h q.1
theorem impl_ShareOk_eq (k : Nat) (l : List Int) (a : Int) (s : List Int) (hk : 30 < k) : impl_ShareOk.f k l a s = some (okR l a s) := by
  obtain ⟨k, rfl⟩ : ∃ m, k = m + 1 := ⟨k - 1, by omega⟩
  simp only [impl_ShareOk.f, lengthsSum_eq (k + 1) l (by omega), Option.bind_some, impl_ShareOk.j0]
  have no : ¬ (AV l a ∧ s.length = l.length) → okR l a s = false := fun q => by unfold okR; rw [decide_eq_false_iff_not]; exact fun z => q ⟨z.1, z.2.1⟩
  by_cases hL : LV l
  · rw [if_pos hL, if_pos rfl, swithin_eq _ _ (by omega) (by omega)]
    simp only [Option.bind_some]
    by_cases ha : -10000000 ≤ a ∧ a ≤ 10000000
    · rw [if_pos (by simpa using ha)]
      have h : AV l a := ⟨hL, ha⟩
      by_cases hs : s.length = l.length
      · have h20 := h.1.2.2.1
        have := impl_Ok_l0 h s [] 0 k (by omega) (by simp; omega) (by simp) (by simp)
        rw [if_neg (by simp [hs]), okR_yes h hs]
        simpa using this
      · rw [if_pos (by simp; omega), no (fun q => hs q.2)]
    · rw [if_neg (by simpa using ha), if_pos trivial, no (fun q => ha q.1.2)]
  · rw [if_neg hL, if_neg (by simp), if_pos trivial, no (fun q => hL q.1.1)]

end Go.Proofs.Ytfmjhckndlngaaa.Pure
