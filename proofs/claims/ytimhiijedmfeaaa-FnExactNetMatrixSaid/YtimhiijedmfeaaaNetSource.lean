/- A closed form of NetSource (chapter 22): entry by entry. -/
import Derived.Test.YtimhiijedmfeaaaRunsN
import Derived.Test.YtimhiijedmfeaaaInts
import Derived.Test.YtimhiijedmfeaaaQ37
import Derived.Test.YtimhiijedmfeaaaQ38
namespace Go.Proofs.Ytimhiijedmfeaaa.Pure
open Go.RowKit Go.Proofs.Ytimhiijedmfeaaa.Q Go.Proofs.YtimhiijedmfeaaaW.PrintWords Go.Proofs.YtimhiijedmfeaaaW.PrintLast
theorem smulb {x y m n : Int} (hx : -m ≤ x ∧ x ≤ m) (hy : -n ≤ y ∧ y ≤ n) (hm : 0 ≤ m) (hn : 0 ≤ n) : -(m * n) ≤ x * y ∧ x * y ≤ m * n := by
  have h1 : x.natAbs ≤ m.toNat := by omega
  have h2 : y.natAbs ≤ n.toNat := by omega
  have h3 : (x * y).natAbs ≤ m.toNat * n.toNat := by rw [Int.natAbs_mul]; exact Nat.mul_le_mul h1 h2
  have h4 : ((m.toNat * n.toNat : Nat) : Int) = m * n := by rw [Int.natCast_mul, Int.toNat_of_nonneg hm, Int.toNat_of_nonneg hn]
  omega
/-- A list told by its entries. -/
def tab (N : Nat) (f : Nat → Int) : List Int := (List.range N).map f
theorem tab_length (N : Nat) (f : Nat → Int) : (tab N f).length = N := by simp [tab]
theorem tab_set (N a : Nat) (f : Nat → Int) (y : Int) : (tab N f).set a y = tab N (fun i => if i = a then y else f i) := by
  refine List.ext_getElem (by simp [tab]) (fun i h1 h2 => ?_)
  rw [List.getElem_set]
  simp only [tab, List.getElem_map, List.getElem_range]
  by_cases h : a = i
  · rw [if_pos h, if_pos h.symm]
  · rw [if_neg h, if_neg (fun q => h q.symm)]
theorem rd_tab {N : Nat} {f : Nat → Int} {i : Nat} (h : i < N) : rd (tab N f) (i : Int) = f i := by
  simp [rd, tab, h]
theorem tab_congr {N : Nat} {f g : Nat → Int} (h : ∀ i, i < N → f i = g i) : tab N f = tab N g := by
  unfold tab
  refine List.map_congr_left (fun i hi => h i (List.mem_range.1 hi))
theorem tab_zero (N : Nat) : List.replicate N (0 : Int) = tab N (fun _ => 0) := by
  refine List.ext_getElem (by simp [tab]) (fun i h1 h2 => ?_)
  simp [tab]
theorem tab_drop (N : Nat) (f : Nat → Int) : (tab (N + 1) f).drop 1 = tab N (fun i => f (i + 1)) := by
  refine List.ext_getElem (by simp [tab]) (fun i h1 h2 => ?_)
  simp [tab]

def wr (r : Run) : Int := r.f3 * r.f2
/-- What a run adds at a node. -/
def contrib (r : Run) (i : Int) : Int := (if r.f1 = i then wr r else 0) - (if r.f0 = i then wr r else 0)
def srcE : List Run → Int → Int
  | [], _ => 0
  | r :: s, i => contrib r i + srcE s i
theorem srcE_append (a b : List Run) (i : Int) : srcE (a ++ b) i = srcE a i + srcE b i := by
  induction a with
  | nil => simp [srcE]
  | cons r a ih => rw [List.cons_append]; simp only [srcE]; rw [ih]; omega
theorem wr_bd {n : Int} {r : Run} (hr : rvB n r = true) : -900000 ≤ wr r ∧ wr r ≤ 900000 ∧ wrap64 (r.f3 * r.f2) = wr r := by
  have hv := rvB_iff.1 hr
  have b := smulb (x := r.f3) (y := r.f2) (m := 9) (n := 100000) (by omega) (by omega) (by omega) (by omega)
  unfold wr
  rw [nw64 (by omega) (by omega)]
  omega
theorem contrib_bd {n : Int} {r : Run} (hr : rvB n r = true) (i : Int) : -1800000 ≤ contrib r i ∧ contrib r i ≤ 1800000 := by
  have := wr_bd hr
  unfold contrib
  split <;> split <;> omega
theorem srcE_bd {n : Int} (l : List Run) (h : ∀ r ∈ l, rvB n r = true) (i : Int) : -(1800000 * (l.length : Int)) ≤ srcE l i ∧ srcE l i ≤ 1800000 * (l.length : Int) := by
  induction l with
  | nil => simp [srcE]
  | cons r l ih =>
    have h1 := ih (fun x hx => h x (List.mem_cons_of_mem _ hx))
    have h2 := contrib_bd (h r List.mem_cons_self) i
    simp only [srcE, List.length_cons]
    omega
theorem srcE_snoc (pre : List Run) (y : Run) (i : Int) : srcE (pre ++ [y]) i = srcE pre i + contrib y i := by
  rw [srcE_append]; simp [srcE]

theorem spec_Source_l0 {N : Nat} (hN : 1 ≤ N) (hN6 : N ≤ 6) (suf : List Run) : ∀ (pre : List Run) (k : Nat), suf.length < k → pre.length + suf.length ≤ 12 → (∀ r ∈ pre ++ suf, rvB (N : Int) r = true) →
    spec_NetSource.l0 k (pre ++ suf) (tab N (fun i => srcE pre i)) (pre.length : Int) = some (tab (N - 1) (fun i => srcE (pre ++ suf) ((i : Int) + 1)), true) := by
  induction suf with
  | nil =>
    intro pre k hk _ _
    obtain ⟨k, rfl⟩ : ∃ m, k = m + 1 := ⟨k - 1, by omega⟩
    obtain ⟨N, rfl⟩ : ∃ m, N = m + 1 := ⟨N - 1, by omega⟩
    rw [List.append_nil, spec_NetSource.l0, if_neg (by omega), if_pos (by rw [tab_length]; omega)]
    rw [show ((1 : Int)).toNat = 1 from rfl, tab_drop]
    simp
  | cons y suf ih =>
    intro pre k hk hl hr
    simp only [List.length_cons] at hk hl
    obtain ⟨k, rfl⟩ : ∃ m, k = m + 1 := ⟨k - 1, by omega⟩
    have hy := hr y (by simp)
    have hv := rvB_iff.1 hy
    have hw := wr_bd hy
    obtain ⟨t, ht⟩ : ∃ t : Nat, y.f1 = t := ⟨y.f1.toNat, by omega⟩
    obtain ⟨f, hf⟩ : ∃ f : Nat, y.f0 = f := ⟨y.f0.toNat, by omega⟩
    have hbt := srcE_bd pre (fun r h => hr r (List.mem_append_left _ h)) (t : Int)
    have hbf := srcE_bd pre (fun r h => hr r (List.mem_append_left _ h)) (f : Int)
    have htf : t ≠ f := by omega
    simp only [spec_NetSource.l0, rd_midR]
    rw [if_pos (len_midR _ _ _), if_pos (by omega), hw.2.2, ht, hf, if_pos (by omega), if_pos (by rw [tab_length]; omega), rd_tab (by omega), nw64 (x := srcE pre (t : Int) + wr y) (by omega) (by omega), Int.toNat_natCast, tab_set]
    simp only [Option.bind_some]
    rw [if_pos (by omega), if_pos (by rw [tab_length]; omega), rd_tab (by omega), if_neg (fun q => htf q.symm), nw64 (x := srcE pre (f : Int) - wr y) (by omega) (by omega), Int.toNat_natCast, tab_set, next_midR pre y (by omega), app_midR pre suf y]
    have e : tab N (fun i => if i = f then srcE pre (f : Int) - wr y else if i = t then srcE pre (t : Int) + wr y else srcE pre (i : Int)) = tab N (fun i => srcE (pre ++ [y]) (i : Int)) := by
      refine tab_congr (fun i hi => ?_)
      rw [srcE_snoc]
      unfold contrib
      rw [ht, hf]
      by_cases h1 : i = f
      · subst h1; rw [if_pos rfl, if_neg (by omega), if_pos rfl]; omega
      · by_cases h2 : i = t
        · subst h2; rw [if_neg h1, if_pos rfl, if_pos rfl, if_neg (by omega)]; omega
        · rw [if_neg h1, if_neg h2, if_neg (by omega), if_neg (by omega)]; omega
    rw [e]
    exact ih (pre ++ [y]) k (by omega) (by simp; omega) (by simpa using hr)
theorem impl_Source_l0 {M : Nat} (hN6 : M ≤ 5) (suf : List Run) : ∀ (pre : List Run) (k : Nat), suf.length < k → pre.length + suf.length ≤ 12 → (∀ r ∈ pre ++ suf, rvB ((M : Int) + 1) r = true) →
    impl_NetSource.l0 k (tab M (fun i => srcE pre ((i : Int) + 1))) (pre ++ suf) ((pre ++ suf).length : Int) (pre.length : Int) = some (tab M (fun i => srcE (pre ++ suf) ((i : Int) + 1)), true) := by
  induction suf with
  | nil =>
    intro pre k hk _ _
    obtain ⟨k, rfl⟩ : ∃ m, k = m + 1 := ⟨k - 1, by omega⟩
    rw [List.append_nil, impl_NetSource.l0, if_neg (by omega)]
  | cons y suf ih =>
    intro pre k hk hl hr
    simp only [List.length_cons] at hk hl
    obtain ⟨k, rfl⟩ : ∃ m, k = m + 1 := ⟨k - 1, by omega⟩
    have hy := hr y (by simp)
    have hv := rvB_iff.1 hy
    have hw := wr_bd hy
    have hb := fun i => srcE_bd pre (fun r h => hr r (List.mem_append_left _ h)) i
    have go : ∀ v : List Int, v = tab M (fun i => srcE (pre ++ [y]) ((i : Int) + 1)) → impl_NetSource.l0 k v (pre ++ y :: suf) ((pre ++ y :: suf).length : Int) (wrap64 ((pre.length : Int) + 1)) = some (tab M (fun i => srcE (pre ++ y :: suf) ((i : Int) + 1)), true) := by
      intro v hv
      rw [hv, next_midR pre y (by omega), app_midR pre suf y]
      exact ih (pre ++ [y]) k (by omega) (by simp; omega) (by simpa using hr)
    simp only [impl_NetSource.l0, rd_midR]
    rw [if_pos (len_midR _ _ _), if_pos (by omega), if_pos (len_midR _ _ _), hw.2.2]
    -- an entry less the first
    have sub1 : ∀ z : Int, 0 < z → z ≤ M → ∃ c : Nat, wrap64 (z - 1) = c ∧ z = (c : Int) + 1 ∧ c < M := fun z h0 h1 => ⟨(z - 1).toNat, by rw [nw64 (by omega) (by omega)]; omega, by omega, by omega⟩
    by_cases h1 : y.f1 > 0
    · obtain ⟨t, ht, ht1, htM⟩ := sub1 y.f1 h1 (by omega)
      have hbt := hb ((t : Int) + 1)
      rw [if_pos h1, ht, if_pos (by omega), if_pos (by rw [tab_length]; omega), rd_tab htM, nw64 (x := srcE pre ((t : Int) + 1) + wr y) (by omega) (by omega), Int.toNat_natCast, tab_set]
      simp only [Option.bind_some]
      by_cases h0 : y.f0 > 0
      · obtain ⟨f, hf, hf1, hfM⟩ := sub1 y.f0 h0 (by omega)
        have hbf := hb ((f : Int) + 1)
        have htf : t ≠ f := by omega
        rw [if_pos h0, hf, if_pos (by omega), if_pos (by rw [tab_length]; omega), rd_tab hfM, if_neg (fun q => htf q.symm), nw64 (x := srcE pre ((f : Int) + 1) - wr y) (by omega) (by omega), Int.toNat_natCast, tab_set]
        refine go _ (tab_congr (fun i hi => ?_))
        rw [srcE_snoc]
        unfold contrib
        rw [ht1, hf1]
        by_cases q1 : i = f
        · subst q1; rw [if_pos rfl, if_neg (by omega), if_pos rfl]; omega
        · by_cases q2 : i = t
          · subst q2; rw [if_neg q1, if_pos rfl, if_pos rfl, if_neg (by omega)]; omega
          · rw [if_neg q1, if_neg q2, if_neg (by omega), if_neg (by omega)]; omega
      · rw [if_neg h0]
        refine go _ (tab_congr (fun i hi => ?_))
        rw [srcE_snoc]
        unfold contrib
        rw [ht1]
        by_cases q2 : i = t
        · subst q2; rw [if_pos rfl, if_pos rfl, if_neg (by omega)]; omega
        · rw [if_neg q2, if_neg (by omega), if_neg (by omega)]; omega
    · rw [if_neg h1]
      by_cases h0 : y.f0 > 0
      · obtain ⟨f, hf, hf1, hfM⟩ := sub1 y.f0 h0 (by omega)
        have hbf := hb ((f : Int) + 1)
        rw [if_pos h0, hf, if_pos (by omega), if_pos (by rw [tab_length]; omega), rd_tab hfM, nw64 (x := srcE pre ((f : Int) + 1) - wr y) (by omega) (by omega), Int.toNat_natCast, tab_set]
        refine go _ (tab_congr (fun i hi => ?_))
        rw [srcE_snoc]
        unfold contrib
        rw [hf1]
        by_cases q1 : i = f
        · subst q1; rw [if_pos rfl, if_neg (by omega), if_pos rfl]; omega
        · rw [if_neg q1, if_neg (by omega), if_neg (by omega)]; omega
      · omega
/-- What NetSource answers. -/
def sourceR (n : Int) (l : List Run) : List Int × Bool := if nvB n l = true then (tab (n.toNat - 1) (fun i => srcE l ((i : Int) + 1)), true) else ([], false)
theorem sourceR_length (n : Int) (l : List Run) : (sourceR n l).1.length ≤ 6 := by
  unfold sourceR
  split
  · rename_i h; have := (nvB_iff.1 h).1; rw [tab_length]; omega
  · simp
theorem spec_NetSource_eq (k : Nat) (n : Int) (l : List Run) (hk : 40 < k) : spec_NetSource.f k n l = some (sourceR n l) := by
  simp only [spec_NetSource.f, spec_NetValid_eq k n l hk, Option.bind_some]
  unfold sourceR
  by_cases h : nvB n l = true
  · have hv := nvB_iff.1 h
    obtain ⟨N, rfl⟩ : ∃ N : Nat, n = N := ⟨n.toNat, by omega⟩
    rw [if_pos h, if_pos h, if_pos (by omega), if_pos (by omega), Int.toNat_natCast, tab_zero]
    have := spec_Source_l0 (N := N) (by omega) (by omega) l [] k (by omega) (by simp; omega) (by simpa using hv.2)
    simpa [srcE] using this
  · rw [if_neg h, if_neg h]
theorem impl_NetSource_eq (k : Nat) (n : Int) (l : List Run) (hk : 20 < k) : impl_NetSource.f k n l = some (sourceR n l) := by
  simp only [impl_NetSource.f, impl_NetValid_eq k n l hk, Option.bind_some]
  unfold sourceR
  by_cases h : nvB n l = true
  · have hv := nvB_iff.1 h
    obtain ⟨M, rfl⟩ : ∃ M : Nat, n = (M : Int) + 1 := ⟨n.toNat - 1, by omega⟩
    rw [if_pos h, if_pos h, nw64 (x := (M : Int) + 1 - 1) (by omega) (by omega), show (M : Int) + 1 - 1 = (M : Int) by omega, if_pos (by omega), if_pos (by omega), Int.toNat_natCast, tab_zero, show ((M : Int) + 1).toNat - 1 = M by omega]
    have := impl_Source_l0 (M := M) (by omega) l [] k (by omega) (by simp; omega) (by simpa using hv.2)
    simpa [srcE] using this
  · rw [if_neg h, if_neg h]
end Go.Proofs.Ytimhiijedmfeaaa.Pure
