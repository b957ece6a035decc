/- The program's AdjustTry and the reference's answer the same, for all arguments. -/
import Derived.Test.YtbbpianfoimejaaRuns
import Derived.Test.YtbbpianfoimejaaInts
import Derived.Test.YtbbpianfoimejaaQ17
import Derived.Test.YtbbpianfoimejaaQ18
import Derived.Test.YtbbpianfoimejaaQ19
import Derived.Test.YtbbpianfoimejaaQ3
namespace Go.Proofs.Ytbbpianfoimejaa.Pure
open Go.RowKit Go.Proofs.Ytbbpianfoimejaa.Q Go.Proofs.YtbbpianfoimejaaW.PrintWords Go.Proofs.YtbbpianfoimejaaW.PrintLast
theorem amulb {x y m n : Int} (hx : -m ≤ x ∧ x ≤ m) (hy : -n ≤ y ∧ y ≤ n) (hm : 0 ≤ m) (hn : 0 ≤ n) : -(m * n) ≤ x * y ∧ x * y ≤ m * n := by
  have h1 : x.natAbs ≤ m.toNat := by omega
  have h2 : y.natAbs ≤ n.toNat := by omega
  have h3 : (x * y).natAbs ≤ m.toNat * n.toNat := by rw [Int.natAbs_mul]; exact Nat.mul_le_mul h1 h2
  have h4 : ((m.toNat * n.toNat : Nat) : Int) = m * n := by rw [Int.natCast_mul, Int.toNat_of_nonneg hm, Int.toNat_of_nonneg hn]
  omega
/-- Heights in range. -/
def hIn (h : List Int) : Prop := ∀ x ∈ h, -1000000 ≤ x ∧ x ≤ 1000000
instance (h : List Int) : Decidable (hIn h) := by unfold hIn; infer_instance
theorem hIn.at_ {h : List Int} (q : hIn h) (i : Int) : -1000000 ≤ rd h i ∧ rd h i ≤ 1000000 := by
  unfold rd
  by_cases hi : i.toNat < h.length
  · rw [List.getD_eq_getElem?_getD, List.getElem?_eq_getElem hi]; exact q _ (List.getElem_mem hi)
  · rw [List.getD_eq_getElem?_getD, List.getElem?_eq_none (by omega)]; simp
/-- A run's part of the sum. -/
def part (h : List Int) (r : Run) : Int := r.f3 * (rd h r.f1 - rd h r.f0 - r.f2) * (rd h r.f1 - rd h r.f0 - r.f2)
def partSum (h : List Int) : List Run → Int
  | [] => 0
  | r :: s => part h r + partSum h s
theorem part_ok {n : Int} {h : List Int} {r : Run} (q : hIn h) (hr : rvB n r = true) : -100000000000000 ≤ part h r ∧ part h r ≤ 100000000000000 ∧
    wrap64 ((wrap64 (r.f3 * (wrap64 ((wrap64 ((rd h r.f1) - (rd h r.f0))) - r.f2)))) * (wrap64 ((wrap64 ((rd h r.f1) - (rd h r.f0))) - r.f2))) = part h r := by
  have hv := rvB_iff.1 hr
  have h1 := q.at_ r.f1
  have h0 := q.at_ r.f0
  unfold part
  rw [rw64 (x := rd h r.f1 - rd h r.f0) (by omega) (by omega), rw64 (x := rd h r.f1 - rd h r.f0 - r.f2) (by omega) (by omega)]
  have hd : -2100000 ≤ rd h r.f1 - rd h r.f0 - r.f2 ∧ rd h r.f1 - rd h r.f0 - r.f2 ≤ 2100000 := by omega
  generalize rd h r.f1 - rd h r.f0 - r.f2 = d at *
  have b1 := amulb (x := r.f3) (y := d) (m := 9) (n := 2100000) (by omega) hd (by omega) (by omega)
  have b2 := amulb (x := r.f3 * d) (y := d) (m := 9 * 2100000) (n := 2100000) b1 hd (by omega) (by omega)
  rw [rw64 (x := r.f3 * d) (by omega) (by omega), rw64 (by omega) (by omega)]
  omega
theorem impl_Try_l0 {n : Int} {h : List Int} (q : hIn h) (hn : (h.length : Int) = n) (suf : List Run) : ∀ (pre : List Run) (a : Int) (k : Nat), suf.length < k → pre.length + suf.length ≤ 12 → (∀ r ∈ suf, rvB n r = true) →
    -(100000000000000 * (pre.length : Int)) ≤ a → a ≤ 100000000000000 * (pre.length : Int) → impl_AdjustTry.l0 k h a (pre ++ suf) ((pre ++ suf).length : Int) (pre.length : Int) = some (a + partSum h suf) := by
  induction suf with
  | nil =>
    intro pre a k hk _ _ _ _
    obtain ⟨k, rfl⟩ : ∃ m, k = m + 1 := ⟨k - 1, by omega⟩
    simp [impl_AdjustTry.l0, partSum]
  | cons y suf ih =>
    intro pre a k hk hl hr ha0 ha1
    simp only [List.length_cons] at hk hl
    obtain ⟨k, rfl⟩ : ∃ m, k = m + 1 := ⟨k - 1, by omega⟩
    have hy := hr y List.mem_cons_self
    have hv := rvB_iff.1 hy
    have hp := part_ok q hy
    simp only [impl_AdjustTry.l0, rd_midR]
    rw [if_pos (len_midR _ _ _), if_pos (by omega), if_pos (len_midR _ _ _), if_pos (by omega), if_pos (by omega), if_pos (by omega), if_pos (by omega), hp.2.2, rw64 (x := a + part h y) (by omega) (by omega), next_midR pre y (by omega), app_midR pre suf y,
      ih (pre ++ [y]) _ k (by omega) (by simp; omega) (fun r hrm => hr r (List.mem_cons_of_mem _ hrm)) (by simp; omega) (by simp; omega)]
    simp only [partSum]
    congr 1; omega
theorem spec_Try_l1 {n : Int} {h : List Int} (q : hIn h) (hn : (h.length : Int) = n) (suf : List Run) : ∀ (pre : List Run) (a : Int) (k : Nat), suf.length < k → pre.length + suf.length ≤ 12 → (∀ r ∈ suf, rvB n r = true) →
    -(100000000000000 * (pre.length : Int)) ≤ a → a ≤ 100000000000000 * (pre.length : Int) → spec_AdjustTry.l1 k (pre ++ suf) h a (pre.length : Int) = some (a + partSum h suf) := by
  induction suf with
  | nil =>
    intro pre a k hk _ _ _ _
    obtain ⟨k, rfl⟩ : ∃ m, k = m + 1 := ⟨k - 1, by omega⟩
    simp [spec_AdjustTry.l1, partSum]
  | cons y suf ih =>
    intro pre a k hk hl hr ha0 ha1
    simp only [List.length_cons] at hk hl
    obtain ⟨k, rfl⟩ : ∃ m, k = m + 1 := ⟨k - 1, by omega⟩
    have hy := hr y List.mem_cons_self
    have hv := rvB_iff.1 hy
    have hp := part_ok q hy
    simp only [spec_AdjustTry.l1, rd_midR]
    rw [if_pos (len_midR _ _ _), if_pos (by omega), if_pos (by omega), if_pos (by omega), if_pos (by omega), if_pos (by omega), hp.2.2, rw64 (x := a + part h y) (by omega) (by omega), next_midR pre y (by omega), app_midR pre suf y,
      ih (pre ++ [y]) _ k (by omega) (by simp; omega) (fun r hrm => hr r (List.mem_cons_of_mem _ hrm)) (by simp; omega) (by simp; omega)]
    simp only [partSum]
    congr 1; omega
/-- What AdjustTry answers. -/
def tryR (n : Int) (l : List Run) (h : List Int) : Int := if nvB n l = true ∧ (h.length : Int) = n ∧ hIn h then partSum h l else -1

theorem heights_l0 (suf : List Int) : ∀ (pre : List Int) (k : Nat), suf.length < k → pre.length + suf.length < 4611686018427387904 →
    impl_heightsValid.l0 k (pre ++ suf) ((pre ++ suf).length : Int) (pre.length : Int) = some (decide (hIn suf)) := by
  induction suf with
  | nil =>
    intro pre k hk _
    obtain ⟨k, rfl⟩ : ∃ m, k = m + 1 := ⟨k - 1, by omega⟩
    simp [impl_heightsValid.l0, hIn]
  | cons y suf ih =>
    intro pre k hk hl
    simp only [List.length_cons] at hk hl
    obtain ⟨k, rfl⟩ : ∃ m, k = m + 1 := ⟨k - 1, by omega⟩
    simp only [impl_heightsValid.l0]
    rw [if_pos (len_mid _ _ _), if_pos (by omega), if_pos (len_mid _ _ _), rd_mid, nwithin_eq _ _ (by omega) (by omega)]
    simp only [Option.bind_some]
    by_cases hy : -1000000 ≤ y ∧ y ≤ 1000000
    · rw [if_pos (by simpa using hy), next_mid pre y (by omega), app_mid pre suf y, ih (pre ++ [y]) k (by omega) (by simp; omega)]
      congr 1; rw [decide_eq_decide]; unfold hIn; simp [hy]
    · rw [if_neg (by simpa using hy)]; congr 1; symm; rw [decide_eq_false_iff_not]; exact fun q => hy (q y List.mem_cons_self)
theorem impl_AdjustTry_eq (k : Nat) (n : Int) (l : List Run) (h : List Int) (hk : 1100000 < k) (_hl : h.length ≤ 1048576) : impl_AdjustTry.f k n l h = some (tryR n l h) := by
  obtain ⟨k, rfl⟩ : ∃ m, k = m + 1 := ⟨k - 1, by omega⟩
  simp only [impl_AdjustTry.f, impl_NetValid_eq _ n l (show 20 < k + 1 by omega), Option.bind_some, impl_AdjustTry.j0]
  unfold tryR
  by_cases hv : nvB n l = true
  · have hv' := nvB_iff.1 hv
    rw [if_pos hv]
    unfold impl_heightsValid.f
    by_cases hn : (h.length : Int) = n
    · rw [if_pos hn]
      have := heights_l0 h [] (k + 1) (by omega) (by simp; omega)
      simp only [List.nil_append, List.length_nil] at this
      rw [show ((0 : Nat) : Int) = 0 from rfl] at this
      rw [this]
      simp only [Option.bind_some]
      by_cases hi : hIn h
      · rw [decide_eq_true hi, if_neg (by simp), if_pos ⟨hv, hn, hi⟩]
        have := impl_Try_l0 hi hn l [] 0 k (by omega) (by simp; omega) hv'.2 (by simp) (by simp)
        simpa using this
      · rw [decide_eq_false hi, if_pos (by simp), if_neg (fun q => hi q.2.2)]
    · rw [if_neg hn]; simp only [Option.bind_some]; rw [if_pos (by simp), if_neg (fun q => hn q.2.1)]
  · rw [if_neg hv, if_pos trivial, if_neg (fun q => hv q.1)]
theorem spec_heights_l0 {n : Int} {l : List Run} {h : List Int} (hv : nvB n l = true) (hn : (h.length : Int) = n) (suf : List Int) : ∀ (pre : List Int) (k : Nat), suf.length + 20 < k → h = pre ++ suf → hIn pre →
    spec_AdjustTry.l0 k n l h (pre.length : Int) = some (if hIn h then partSum h l else -1) := by
  have hv' := nvB_iff.1 hv
  induction suf with
  | nil =>
    intro pre k hk he hp
    obtain ⟨k, rfl⟩ : ∃ m, k = m + 1 := ⟨k - 1, by omega⟩
    rw [List.append_nil] at he
    subst he
    rw [spec_AdjustTry.l0, if_neg (by omega), if_pos hp]
    have := spec_Try_l1 hp hn l [] 0 k (by omega) (by simp; omega) hv'.2 (by simp) (by simp)
    simpa using this
  | cons y suf ih =>
    intro pre k hk he hp
    simp only [List.length_cons] at hk
    obtain ⟨k, rfl⟩ : ∃ m, k = m + 1 := ⟨k - 1, by omega⟩
    have hlen : h.length = pre.length + suf.length + 1 := by rw [he]; simp; omega
    have hy' : rd h (pre.length : Int) = y := by rw [he]; exact rd_mid pre suf y
    rw [spec_AdjustTry.l0, if_pos (by omega), if_pos (by omega), if_pos (by omega), hy', n6In_eq]
    simp only [Option.bind_some]
    by_cases hy : -1000000 ≤ y ∧ y ≤ 1000000
    · rw [if_pos (by simpa using hy), next_mid pre y (by omega)]
      refine ih (pre ++ [y]) k (by omega) (by rw [he]; simp) (fun x hx => ?_)
      rcases List.mem_append.1 hx with hx | hx
      · exact hp x hx
      · rw [List.mem_singleton.1 hx]; exact hy
    · rw [if_neg (by simpa using hy), if_neg (fun q => hy (q y (by rw [he]; simp)))]
theorem spec_AdjustTry_eq (k : Nat) (n : Int) (l : List Run) (h : List Int) (hk : 100 < k) : spec_AdjustTry.f k n l h = some (tryR n l h) := by
  obtain ⟨k, rfl⟩ : ∃ m, k = m + 1 := ⟨k - 1, by omega⟩
  simp only [spec_AdjustTry.f, spec_NetValid_eq _ n l (show 40 < k + 1 by omega), Option.bind_some, spec_AdjustTry.j0]
  unfold tryR
  by_cases hv : nvB n l = true
  · have hv' := nvB_iff.1 hv
    rw [if_pos hv]
    by_cases hn : (h.length : Int) = n
    · rw [if_neg (by simp [hn])]
      have := spec_heights_l0 hv hn h [] k (by omega) rfl (fun x hx => by cases hx)
      simp only [List.length_nil] at this
      rw [show ((0 : Nat) : Int) = 0 from rfl] at this
      rw [this]
      by_cases hi : hIn h
      · rw [if_pos hi, if_pos ⟨hv, hn, hi⟩]
      · rw [if_neg hi, if_neg (fun q => hi q.2.2)]
    · rw [if_pos (by simpa using hn), if_neg (fun q => hn q.2.1)]
  · rw [if_neg hv, if_pos trivial, if_neg (fun q => hv q.1)]

theorem FnExactAdjustTry : laws_FnExactAdjustTry.Pure := by
  intro n l h _ hm _ _ _ _
  refine ⟨2000000, ?_⟩
  unfold laws_FnExactAdjustTry.f
  by_cases h1 : (h.length : Int) > 1048576
  · rw [if_pos h1]
  · rw [if_neg h1, szRunS_eq l hm]
    simp only [Option.bind_some]
    by_cases h2 : l.length ≤ 1048576
    · rw [if_pos h2, if_neg (by omega), toRunS_eq _ l (by omega) h2, toIntS_eq _ h (by omega) (by omega)]
      simp only [Option.bind_some]
      rw [spec_AdjustTry_eq _ _ _ _ (by omega), impl_AdjustTry_eq _ _ _ _ (by omega) (by omega)]
      simp only [Option.bind_some]
      rw [if_pos trivial, eqRunS_self _ _ (by simp; omega) (by simp; omega), eqIntS_self _ _ (by omega) (by omega)]
      simp
    · rw [if_neg h2, if_pos (by omega)]
end Go.Proofs.Ytbbpianfoimejaa.Pure
