/- The reference's MatApply (chapter 21). -/
import Derived.Test.YtimhiijedmfeaaaMatApplyI
import Derived.Test.YtimhiijedmfeaaaMats
import Derived.Test.YtimhiijedmfeaaaQ9
namespace Go.Proofs.Ytimhiijedmfeaaa.Pure
open Go.RowKit Go.Proofs.Ytimhiijedmfeaaa.Q Go.Proofs.YtimhiijedmfeaaaW.PrintWords Go.Proofs.YtimhiijedmfeaaaW.PrintLast Go.Proofs.YtimhiijedmfeaaaW.PrintMore
theorem spec_Apply_l1 {m : List (List Int)} {v r out : List Int} {n : Nat} (hr : ∀ x ∈ r, -1000 ≤ x ∧ x ≤ 1000) (hrn : r.length = n) (hvn : v.length = n) (h5 : n ≤ 5) (ho : out.length ≤ 5) {i : Nat} (hi : i < m.length) (hri : rd_L1 m (i : Int) = r)
    (hv : ∀ x ∈ v, -1000000 ≤ x ∧ x ≤ 1000000) (c : Nat) : ∀ (j : Nat) (a : Int) (k : Nat), j + c = n → -(1000000000 * (j : Int)) ≤ a → a ≤ 1000000000 * (j : Int) →
    spec_MatApply.l1 (k + c + 1) m v out 1000000 (i : Int) a (j : Int) = spec_MatApply.l0 k m v (out ++ [a + dotC r v c j]) 1000000 (wrap64 ((i : Int) + 1)) := by
  induction c with
  | zero =>
    intro j a k hj _ _
    rw [Nat.add_zero, spec_MatApply.l1, if_neg (by omega), if_pos (by omega)]
    simp only [dotC, Int.add_zero]
  | succ c ih =>
    intro j a k hj h0 h1
    have hd := dot_step hr hv (j : Int)
    have hvj := inB_at (m := 1000000) (by omega) hv (j : Int)
    rw [← Nat.add_assoc, spec_MatApply.l1, if_pos (by omega), if_pos (by omega), tw64 (x := -1000000) (by omega) (by omega), m6In_eq]
    simp only [Option.bind_some]
    rw [if_pos (by simpa using hvj), if_pos (by omega), if_pos (by omega), hri, if_pos (by omega), hd.2.2, tw64 (x := a + rd r (j : Int) * rd v (j : Int)) (by omega) (by omega), tw64 (x := (j : Int) + 1) (by omega) (by omega)]
    have := ih (j + 1) (a + rd r (j : Int) * rd v (j : Int)) k (by omega) (by omega) (by omega)
    rw [show ((j + 1 : Nat) : Int) = (j : Int) + 1 by omega] at this
    rw [this]
    simp only [dotC]
    rw [Int.add_assoc]
theorem spec_Apply_bad {m : List (List Int)} {v out : List Int} {n : Nat} (hrn : (rd_L1 m 0).length = n) (h0 : 0 < m.length) (suf : List Int) : ∀ (pre : List Int) (a : Int) (k : Nat), suf.length < k → v = pre ++ suf → v.length = n → n ≤ 5 → inB 1000000 suf = false →
    spec_MatApply.l1 k m v out 1000000 0 a (pre.length : Int) = some ([], false) := by
  induction suf with
  | nil => intro pre a k _ _ _ _ h; simp [inB] at h
  | cons y suf ih =>
    intro pre a k hk he hvn h5 hb
    rw [List.length_cons] at hk
    obtain ⟨k, rfl⟩ : ∃ m, k = m + 1 := ⟨k - 1, by omega⟩
    have hlen : v.length = pre.length + suf.length + 1 := by rw [he]; simp; omega
    have hy : rd v (pre.length : Int) = y := by rw [he]; exact rd_mid pre suf y
    rw [spec_MatApply.l1, if_pos (by omega), if_pos (by omega), hy, tw64 (x := -1000000) (by omega) (by omega), m6In_eq]
    simp only [Option.bind_some]
    by_cases h : -1000000 ≤ y ∧ y ≤ 1000000
    · have e : inB 1000000 suf = false := by
        unfold inB at hb ⊢; rw [List.all_cons, decide_eq_true h, Bool.true_and] at hb; exact hb
      rw [if_pos (by simpa using h), if_pos (by omega), if_pos (by omega), if_pos (by omega), next_mid pre y (by omega)]
      exact ih (pre ++ [y]) _ k (by omega) (by rw [he]; simp) hvn h5 e
    · rw [if_neg (by simpa using h)]
theorem spec_Apply_l0 {m : List (List Int)} {v : List Int} (hm : mvB m = true) (hvn : v.length = m.length) (hv : ∀ x ∈ v, -1000000 ≤ x ∧ x ≤ 1000000) (suf : List (List Int)) : ∀ (pre : List (List Int)) (k : Nat), 10 * suf.length < k → m = pre ++ suf →
    spec_MatApply.l0 k m v (pre.map (fun r => dotC r v m.length 0)) 1000000 (pre.length : Int) = some (m.map (fun r => dotC r v m.length 0), true) := by
  have hm' := mvB_iff.1 hm
  induction suf with
  | nil =>
    intro pre k hk he
    obtain ⟨k, rfl⟩ : ∃ m, k = m + 1 := ⟨k - 1, by omega⟩
    rw [List.append_nil] at he
    subst he
    rw [spec_MatApply.l0, if_neg (by omega)]
  | cons y suf ih =>
    intro pre k hk he
    rw [List.length_cons] at hk
    have hlen : m.length = pre.length + suf.length + 1 := by rw [he]; simp; omega
    obtain ⟨k, rfl⟩ : ∃ q, k = (q + m.length + 1) + 1 := ⟨k - m.length - 2, by omega⟩
    have hy : rd_L1 m (pre.length : Int) = y := by rw [he]; exact rd_midM pre suf y
    have hym := hm'.2 y (by rw [he]; simp)
    rw [spec_MatApply.l0, if_pos (by omega)]
    have := spec_Apply_l1 (m := m) (n := m.length) (i := pre.length) (out := pre.map (fun r => dotC r v m.length 0)) hym.2 hym.1 hvn hm'.1.2 (by simp; omega) (by omega) hy hv m.length 0 0 k (by omega) (by omega) (by omega)
    rw [show ((0 : Nat) : Int) = 0 from rfl] at this
    rw [this, next_midM pre y (by omega)]
    have e1 : pre.map (fun r => dotC r v m.length 0) ++ [0 + dotC y v m.length 0] = (pre ++ [y]).map (fun r => dotC r v m.length 0) := by simp
    rw [e1]
    exact ih (pre ++ [y]) k (by omega) (by rw [he]; simp)
theorem spec_MatApply_eq (k : Nat) (m : List (List Int)) (v : List Int) (ht : tot m ≤ 1048576) (hk : tot m + m.length + 100 < k) : spec_MatApply.f k m v = some (applyR m v) := by
  obtain ⟨k, rfl⟩ : ∃ m, k = m + 1 := ⟨k - 1, by omega⟩
  unfold spec_MatApply.f applyR
  simp only [Option.bind_some]
  rw [spec_MatValid_eq _ m ht (by omega)]
  simp only [Option.bind_some, spec_MatApply.j0]
  by_cases h : mvB m = true
  · have hm' := mvB_iff.1 h
    rw [if_pos h]
    by_cases hl : v.length = m.length
    · rw [if_neg (by simp [hl])]
      by_cases hb : inB 1000000 v = true
      · rw [if_pos ⟨h, hl, hb⟩]
        have := spec_Apply_l0 h hl (inB_iff.1 hb) m [] k (by omega) rfl
        simpa using this
      · rw [if_neg (fun q => hb q.2.2)]
        obtain ⟨k, rfl⟩ : ∃ m, k = m + 1 := ⟨k - 1, by omega⟩
        have h0 : 0 < m.length := by omega
        have hr0 : (rd_L1 m 0).length = m.length := by
          have e : rd_L1 m 0 = m[0] := by simp [rd_L1, h0]
          rw [e]; exact (hm'.2 _ (List.getElem_mem h0)).1
        rw [spec_MatApply.l0, if_pos (by omega)]
        have := spec_Apply_bad (m := m) (v := v) (out := []) hr0 h0 v [] 0 k (by omega) rfl hl hm'.1.2 (Bool.eq_false_iff.2 hb)
        simpa using this
    · rw [if_pos (by simp; omega), if_neg (fun q => hl q.2.1)]
  · rw [if_neg h, if_pos trivial, if_neg (fun q => h q.1)]
end Go.Proofs.Ytimhiijedmfeaaa.Pure
