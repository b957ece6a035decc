/- MatApply of a drawn matrix: the program answers as the reference does; and one number of the list more by 1 adds a column. -/
import Derived.Test.YtimhiijedmfeaaaDrawMats
import Derived.Test.YtimhiijedmfeaaaMatApply
import Derived.Test.YtimhiijedmfeaaaQ18
import Derived.Test.YtimhiijedmfeaaaQ3
namespace Go.Proofs.Ytimhiijedmfeaaa.Pure
open Go.RowKit Go.Proofs.Ytimhiijedmfeaaa.Q Go.Proofs.YtimhiijedmfeaaaW.PrintWords Go.Proofs.YtimhiijedmfeaaaW.PrintLast
theorem tsameInts_l0 (suf : List Int) : ∀ (pre : List Int) (k : Nat), suf.length < k → pre.length + suf.length < 4611686018427387904 → laws_sameInts.l0 k (pre ++ suf) (pre ++ suf) (pre.length : Int) = some true := by
  induction suf with
  | nil =>
    intro pre k hk _
    obtain ⟨k, rfl⟩ : ∃ m, k = m + 1 := ⟨k - 1, by omega⟩
    simp [laws_sameInts.l0]
  | cons y suf ih =>
    intro pre k hk hl
    simp only [List.length_cons] at hk hl
    obtain ⟨k, rfl⟩ : ∃ m, k = m + 1 := ⟨k - 1, by omega⟩
    rw [laws_sameInts.l0, if_pos (len_mid _ _ _), if_pos (by omega), if_pos (len_mid _ _ _), if_pos rfl, next_mid pre y (by omega), app_mid pre suf y]
    exact ih (pre ++ [y]) k (by omega) (by simp; omega)
theorem tsameInts_self (k : Nat) (l : List Int) (hk : l.length < k) (hl : l.length ≤ 1000000) : laws_sameInts.f k l l = some true := by
  unfold laws_sameInts.f
  rw [if_pos rfl]
  exact tsameInts_l0 l [] k hk (by simp; omega)
theorem rd_set_ne {v : List Int} {i j : Nat} {y : Int} (h : i ≠ j) : rd (v.set i y) (j : Int) = rd v (j : Int) := by
  simp [rd, h]
theorem rd_set_eq {v : List Int} {i : Nat} {y : Int} (h : i < v.length) : rd (v.set i y) (i : Int) = y := by
  simp [rd, h]
theorem dotC_set (r v : List Int) {i : Nat} (hi : i < v.length) (c : Nat) : ∀ j, dotC r (v.set i (rd v (i : Int) + 1)) c j = dotC r v c j + (if j ≤ i ∧ i < j + c then rd r (i : Int) else 0) := by
  induction c with
  | zero => intro j; simp only [dotC]; rw [if_neg (by omega)]; omega
  | succ c ih =>
    intro j
    simp only [dotC]
    rw [ih (j + 1)]
    by_cases h : i = j
    · subst h
      rw [rd_set_eq hi, if_neg (by omega), if_pos (by omega), Int.mul_add]; omega
    · rw [rd_set_ne h]
      by_cases h2 : j + 1 ≤ i ∧ i < j + 1 + c
      · rw [if_pos h2, if_pos (by omega)]; omega
      · rw [if_neg h2, if_neg (by omega)]; omega
theorem FnApplySum_l0 {m : List (List Int)} {s t : List Int} {i : Nat} {n : Nat} (hm : m.length = n) (hs : s.length = n) (ht : t.length = n) (h5 : n ≤ 5) (hr : ∀ r ∈ m, i < r.length)
    (hd : ∀ j, j < n → rd t (j : Int) = wrap64 (rd s (j : Int) + rd (rd_L1 m (j : Int)) (i : Int))) (c : Nat) : ∀ (j : Nat) (k : Nat), j + c = n → c < k → laws_FnApplySum.l0 k m s (i : Int) t true (j : Int) = some true := by
  induction c with
  | zero =>
    intro j k hj hk
    obtain ⟨k, rfl⟩ : ∃ m, k = m + 1 := ⟨k - 1, by omega⟩
    rw [laws_FnApplySum.l0, if_neg (by omega), if_pos rfl]
  | succ c ih =>
    intro j k hj hk
    obtain ⟨k, rfl⟩ : ∃ m, k = m + 1 := ⟨k - 1, by omega⟩
    have hrj : i < (rd_L1 m (j : Int)).length := by
      have e : rd_L1 m (j : Int) = m[j]'(by omega) := by simp [rd_L1, show j < m.length by omega]
      rw [e]; exact hr _ (List.getElem_mem _)
    rw [laws_FnApplySum.l0, if_pos (by omega), if_pos (by omega), if_pos (by omega), if_pos (by omega), if_pos (by omega), if_pos (by omega), if_pos (by omega), if_pos (hd j (by omega)), tw64 (x := (j : Int) + 1) (by omega) (by omega)]
    have := ih (j + 1) k (by omega) (by omega)
    rw [show ((j + 1 : Nat) : Int) = (j : Int) + 1 by omega] at this
    exact this
theorem FnApplySum : laws_FnApplySum.Pure := by
  intro l0 l1 _ _ hl0 _ _ _
  refine ⟨1003, ?_⟩
  unfold laws_FnApplySum.f
  split
  · simp [laws_FnApplySum.j0]
  · by_cases h1 : (l1.length : Int) > 1048576
    · rw [decide_eq_true h1]; simp [laws_FnApplySum.j0]
    · rw [decide_eq_false h1, laws_FnApplySum.j0, if_neg (by simp)]
      obtain ⟨m, v, hd, ht, hv6⟩ := DrawMatApply_ok 1002 (by omega) hl0
      have htl := tot_len m
      have hrow : ∀ r ∈ m, r.length ≤ 1048576 := fun r h => by have := tot_mem h; omega
      rw [hd]; simp only [Option.bind_some]
      rw [impl_MatApply_eq _ _ _ (by omega) hrow (by omega), spec_MatApply_eq _ _ _ (by omega) (by omega)]
      simp only [Option.bind_some]
      have hal := applyR_length m v
      rw [if_neg (by simp), tsameInts_self _ _ (by omega) (by omega)]
      simp only [Option.bind_some]
      rw [if_pos trivial, laws_FnApplySum.j1]
      by_cases h : mvB m = true ∧ v.length = m.length ∧ inB 1000000 v = true
      · have hS : applyR m v = (m.map (fun r => dotC r v m.length 0), true) := by unfold applyR; rw [if_pos h]
        obtain ⟨hm, hvn, hb⟩ := h
        have hm' := mvB_iff.1 hm
        have hb' := inB_iff.1 hb
        rw [hS, if_neg (by simp), if_neg (by omega)]
        simp only [Option.bind_some, List.nil_append, List.length_nil]
        rw [if_pos (by omega)]
        have i0 : 0 ≤ (l1.length : Int) % (v.length : Int) := Int.emod_nonneg _ (by omega)
        have i1 : (l1.length : Int) % (v.length : Int) < (v.length : Int) := Int.emod_lt_of_pos _ (by omega)
        rw [if_pos i0, if_pos i1]
        obtain ⟨i, hi⟩ : ∃ i : Nat, (l1.length : Int) % (v.length : Int) = i := ⟨((l1.length : Int) % (v.length : Int)).toNat, by omega⟩
        rw [hi, Int.toNat_natCast]
        have hil : i < v.length := by omega
        have hvi := inB_at (m := 1000000) (by omega) hb' (i : Int)
        rw [tw64 (x := rd v (i : Int) + 1) (by omega) (by omega), impl_MatApply_eq _ _ _ (by omega) hrow (by simp; omega)]
        simp only [Option.bind_some]
        by_cases hb2 : inB 1000000 (v.set i (rd v (i : Int) + 1)) = true
        · have hT : applyR m (v.set i (rd v (i : Int) + 1)) = (m.map (fun r => dotC r (v.set i (rd v (i : Int) + 1)) m.length 0), true) := by unfold applyR; rw [if_pos ⟨hm, by simpa using hvn, hb2⟩]
          rw [hT]
          have := FnApplySum_l0 (m := m) (s := m.map (fun r => dotC r v m.length 0)) (t := m.map (fun r => dotC r (v.set i (rd v (i : Int) + 1)) m.length 0)) (i := i) (n := m.length) rfl (by simp) (by simp) hm'.1.2 (fun r hr => by have := (hm'.2 r hr).1; omega)
            (fun j hj => by
              have hmem := hm'.2 _ (List.getElem_mem hj)
              have e0 : rd_L1 m (j : Int) = m[j] := by simp [rd_L1, hj]
              have e1 : rd (m.map (fun r => dotC r v m.length 0)) (j : Int) = dotC m[j] v m.length 0 := by simp [rd, hj]
              have e2 : rd (m.map (fun r => dotC r (v.set i (rd v (i : Int) + 1)) m.length 0)) (j : Int) = dotC m[j] (v.set i (rd v (i : Int) + 1)) m.length 0 := by simp [rd, hj]
              have bd := dotC_bd hmem.2 hb' m.length 0
              have bi := inB_at (m := 1000) (by omega) hmem.2 (i : Int)
              rw [e0, e1, e2, dotC_set _ _ hil, if_pos (by omega), tw64 (by omega) (by omega)]) m.length 0 1001 (by omega) (by omega)
          exact this
        · have hT : applyR m (v.set i (rd v (i : Int) + 1)) = ([], false) := by unfold applyR; rw [if_neg (fun q => hb2 q.2.2)]
          rw [hT, laws_FnApplySum.l0, if_neg (by simp), if_neg (by simp)]
          simp
      · have hS : applyR m v = ([], false) := by unfold applyR; rw [if_neg h]
        rw [hS, if_pos (by simp), if_pos (by simp), tsameInts_self _ _ (by simp) (by simp)]
        rfl
end Go.Proofs.Ytimhiijedmfeaaa.Pure
