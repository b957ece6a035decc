/- The program's MatTimes and the reference's answer the same, for all arguments; its result shares no memory. -/
import Derived.Test.YtimhiijedmfeaaaMarkMats
import Derived.Test.YtimhiijedmfeaaaQ15
import Derived.Test.YtimhiijedmfeaaaQ16
import Derived.Test.YtimhiijedmfeaaaQ17
namespace Go.Proofs.Ytimhiijedmfeaaa.Pure
open Go.RowKit Go.Proofs.Ytimhiijedmfeaaa.Q Go.Proofs.YtimhiijedmfeaaaW.PrintWords Go.Proofs.YtimhiijedmfeaaaW.PrintLast
theorem xmulb {x y m n : Int} (hx : -m ≤ x ∧ x ≤ m) (hy : -n ≤ y ∧ y ≤ n) (hm : 0 ≤ m) (hn : 0 ≤ n) : -(m * n) ≤ x * y ∧ x * y ≤ m * n := by
  have h1 : x.natAbs ≤ m.toNat := by omega
  have h2 : y.natAbs ≤ n.toNat := by omega
  have h3 : (x * y).natAbs ≤ m.toNat * n.toNat := by rw [Int.natAbs_mul]; exact Nat.mul_le_mul h1 h2
  have h4 : ((m.toNat * n.toNat : Nat) : Int) = m * n := by rw [Int.natCast_mul, Int.toNat_of_nonneg hm, Int.toNat_of_nonneg hn]
  omega
theorem xrow_len {m : List (List Int)} (hm : mvB m = true) {i : Nat} (hi : i < m.length) : (rd_L1 m (i : Int)).length = m.length := by
  have e : rd_L1 m (i : Int) = m[i] := by simp [rd_L1, hi]
  rw [e]; exact ((mvB_iff.1 hm).2 _ (List.getElem_mem hi)).1
theorem xrow_bd {m : List (List Int)} (hm : mvB m = true) {i : Nat} (hi : i < m.length) (j : Int) : -1000 ≤ rd (rd_L1 m (i : Int)) j ∧ rd (rd_L1 m (i : Int)) j ≤ 1000 := by
  have e : rd_L1 m (i : Int) = m[i] := by simp [rd_L1, hi]
  rw [e]
  have h := ((mvB_iff.1 hm).2 _ (List.getElem_mem hi)).2
  unfold rd
  by_cases hj : j.toNat < m[i].length
  · rw [List.getD_eq_getElem?_getD, List.getElem?_eq_getElem hj]; exact h _ (List.getElem_mem hj)
  · rw [List.getD_eq_getElem?_getD, List.getElem?_eq_none (by omega)]; simp
/-- A sum of c products, from q on. -/
def prodC (a b : List (List Int)) (i j : Nat) : Nat → Nat → Int
  | 0, _ => 0
  | c + 1, q => rd (rd_L1 a (i : Int)) (q : Int) * rd (rd_L1 b (q : Int)) (j : Int) + prodC a b i j c (q + 1)
/-- A row of the product, so far as j columns are gone through. -/
def prow (a b : List (List Int)) (i j : Nat) : List Int := (List.range j).map fun q : Nat => prodC a b i q a.length 0
def prodM (a b : List (List Int)) (i : Nat) : List (List Int) := (List.range i).map fun q : Nat => prow a b q a.length
theorem prow_succ (a b : List (List Int)) (i j : Nat) : prow a b i j ++ [prodC a b i j a.length 0] = prow a b i (j + 1) := by
  unfold prow; rw [List.range_succ, List.map_append]; simp
theorem prodM_succ (a b : List (List Int)) (i : Nat) : prodM a b i ++ [prow a b i a.length] = prodM a b (i + 1) := by
  unfold prodM; rw [List.range_succ, List.map_append]; simp
theorem prow_length (a b : List (List Int)) (i j : Nat) : (prow a b i j).length = j := by simp [prow]
theorem prodM_length (a b : List (List Int)) (i : Nat) : (prodM a b i).length = i := by simp [prodM]
theorem xtot_le (B : Nat) (l : List (List Int)) (h : ∀ r ∈ l, r.length ≤ B) : tot l ≤ (B + 1) * l.length := by
  induction l with
  | nil => simp [tot]
  | cons r l ih =>
    rw [tot_cons, List.length_cons, Nat.mul_succ]
    have := ih (fun x hx => h x (List.mem_cons_of_mem _ hx))
    have := h r List.mem_cons_self
    omega
theorem prodM_tot {a b : List (List Int)} (ha : mvB a = true) : tot (prodM a b a.length) ≤ 30 := by
  have h5 := (mvB_iff.1 ha).1.2
  have := xtot_le 5 (prodM a b a.length) (fun r hr => by
    unfold prodM at hr
    obtain ⟨q, _, rfl⟩ := List.mem_map.1 hr
    rw [prow_length]; omega)
  rw [prodM_length] at this
  omega
/-- The program's row: zeros from column j on. -/
theorem prz_rd (F : Nat → Int) (n : Nat) {j : Nat} (hj : j < n) : rd ((List.range n).map fun q : Nat => if q < j then F q else 0) (j : Int) = 0 := by
  simp [rd, hj]
theorem prz_set (F : Nat → Int) (n j : Nat) : ((List.range n).map fun q : Nat => if q < j then F q else 0).set j (0 + F j) = (List.range n).map fun q : Nat => if q < j + 1 then F q else 0 := by
  refine List.ext_getElem (by simp) (fun q h1 h2 => ?_)
  rw [List.getElem_set]
  simp only [List.getElem_map, List.getElem_range]
  by_cases h : j = q
  · subst h; rw [if_pos rfl, if_pos (by omega)]; omega
  · rw [if_neg h]
    by_cases h3 : q < j
    · rw [if_pos h3, if_pos (by omega)]
    · rw [if_neg h3, if_neg (by omega)]
theorem step_bd {a b : List (List Int)} (ha : mvB a = true) (hb : mvB b = true) (hl : a.length = b.length) {i j q : Nat} (hi : i < a.length) (hq : q < a.length) : -1000000 ≤ rd (rd_L1 a (i : Int)) (q : Int) * rd (rd_L1 b (q : Int)) (j : Int) ∧ rd (rd_L1 a (i : Int)) (q : Int) * rd (rd_L1 b (q : Int)) (j : Int) ≤ 1000000 :=
  xmulb (m := 1000) (n := 1000) (xrow_bd ha hi q) (xrow_bd hb (by omega) j) (by omega) (by omega)
theorem spec_T_l2 {a b : List (List Int)} (ha : mvB a = true) (hb : mvB b = true) (hl : a.length = b.length) {i j : Nat} (hi : i < a.length) (hj : j < a.length) {x6 : List (List Int)} {x8 : List Int} (h8 : x8.length ≤ 5) (c : Nat) : ∀ (q : Nat) (s : Int) (k : Nat), q + c = a.length → -(1000000 * (q : Int)) ≤ s → s ≤ 1000000 * (q : Int) →
    spec_MatTimes.l2 (k + c + 1) a b x6 (i : Int) x8 (j : Int) s (q : Int) = spec_MatTimes.l1 k a b x6 (i : Int) (x8 ++ [s + prodC a b i j c q]) (wrap64 ((j : Int) + 1)) := by
  have h5 := (mvB_iff.1 ha).1.2
  induction c with
  | zero =>
    intro q s k hq _ _
    rw [Nat.add_zero, spec_MatTimes.l2, if_neg (by omega), if_pos (by omega)]
    simp only [prodC, Int.add_zero]
  | succ c ih =>
    intro q s k hq h0 h1
    have r1 := xrow_len ha (i := i) hi
    have r2 := xrow_len hb (i := q) (by omega)
    have hs := step_bd ha hb hl (i := i) (j := j) (q := q) hi (by omega)
    rw [← Nat.add_assoc, spec_MatTimes.l2, if_pos (by omega), if_pos (by omega), if_pos (by omega), if_pos (by omega), if_pos (by omega), if_pos (by omega), if_pos (by omega), if_pos (by omega),
      tw64 (x := rd (rd_L1 a (i : Int)) (q : Int) * rd (rd_L1 b (q : Int)) (j : Int)) (by omega) (by omega), tw64 (x := s + rd (rd_L1 a (i : Int)) (q : Int) * rd (rd_L1 b (q : Int)) (j : Int)) (by omega) (by omega), tw64 (x := (q : Int) + 1) (by omega) (by omega)]
    have := ih (q + 1) (s + rd (rd_L1 a (i : Int)) (q : Int) * rd (rd_L1 b (q : Int)) (j : Int)) k (by omega) (by omega) (by omega)
    rw [show ((q + 1 : Nat) : Int) = (q : Int) + 1 by omega] at this
    rw [this]
    simp only [prodC]
    rw [Int.add_assoc]
theorem spec_T_l1 {a b : List (List Int)} (ha : mvB a = true) (hb : mvB b = true) (hl : a.length = b.length) {i : Nat} (hi : i < a.length) {x6 : List (List Int)} (h6 : x6.length ≤ 5) (d : Nat) : ∀ (j k : Nat), j + d = a.length →
    spec_MatTimes.l1 (k + d * (a.length + 2) + 1) a b x6 (i : Int) (prow a b i j) (j : Int) = spec_MatTimes.l0 k a b (x6 ++ [prow a b i a.length]) (wrap64 ((i : Int) + 1)) := by
  have h5 := (mvB_iff.1 ha).1.2
  induction d with
  | zero =>
    intro j k hj
    have : j = a.length := by omega
    subst this
    rw [Nat.zero_mul, Nat.add_zero, spec_MatTimes.l1, if_neg (by omega), if_pos (by omega)]
  | succ d ih =>
    intro j k hj
    rw [spec_MatTimes.l1, if_pos (by omega), show k + (d + 1) * (a.length + 2) = (k + d * (a.length + 2) + 1) + a.length + 1 by rw [Nat.succ_mul]; omega]
    have := spec_T_l2 ha hb hl hi (j := j) (by omega) (x6 := x6) (x8 := prow a b i j) (by rw [prow_length]; omega) a.length 0 0 (k + d * (a.length + 2) + 1) (by omega) (by omega) (by omega)
    rw [show ((0 : Nat) : Int) = 0 from rfl, Int.zero_add, prow_succ] at this
    rw [this, tw64 (by omega) (by omega)]
    have := ih (j + 1) k (by omega)
    rw [show ((j + 1 : Nat) : Int) = (j : Int) + 1 by omega] at this
    exact this
theorem spec_T_l0 {a b : List (List Int)} (ha : mvB a = true) (hb : mvB b = true) (hl : a.length = b.length) (d : Nat) : ∀ (i k : Nat), i + d = a.length → 100 * d + 100 < k → spec_MatTimes.l0 k a b (prodM a b i) (i : Int) = some (if mvB (prodM a b a.length) = true then (prodM a b a.length, true) else ([], false)) := by
  have h5 := (mvB_iff.1 ha).1.2
  have hnn : a.length * (a.length + 2) ≤ 35 := Nat.mul_le_mul h5 (show a.length + 2 ≤ 7 by omega)
  induction d with
  | zero =>
    intro i k hi hk
    obtain ⟨k, rfl⟩ : ∃ m, k = m + 1 := ⟨k - 1, by omega⟩
    have : i = a.length := by omega
    subst this
    have ht := prodM_tot (b := b) ha
    rw [spec_MatTimes.l0, if_neg (by omega), spec_MatValid_eq _ _ (by omega) (by rw [prodM_length]; omega)]
    simp only [Option.bind_some]
    by_cases h : mvB (prodM a b a.length) = true
    · rw [if_pos h, if_pos h]
    · rw [if_neg h, if_neg h]
  | succ d ih =>
    intro i k hi hk
    obtain ⟨k, rfl⟩ : ∃ q, k = (q + a.length * (a.length + 2) + 1) + 1 := ⟨k - a.length * (a.length + 2) - 2, by omega⟩
    rw [spec_MatTimes.l0, if_pos (by omega)]
    have := spec_T_l1 ha hb hl (i := i) (by omega) (x6 := prodM a b i) (by rw [prodM_length]; omega) a.length 0 k (by omega)
    rw [show prow a b i 0 = [] from rfl, show ((0 : Nat) : Int) = 0 from rfl, prodM_succ] at this
    rw [this, tw64 (by omega) (by omega)]
    have := ih (i + 1) k (by omega) (by omega)
    rw [show ((i + 1 : Nat) : Int) = (i : Int) + 1 by omega] at this
    exact this
theorem impl_T_l2 {a b : List (List Int)} (ha : mvB a = true) (hb : mvB b = true) (hl : a.length = b.length) {i j : Nat} (hi : i < a.length) (hj : j < a.length) {x6 : List (List Int)} (c : Nat) : ∀ (q : Nat) (x8 : List Int) (k : Nat), q + c = a.length → x8.length = a.length → -(1000000 * (q : Int)) ≤ rd x8 (j : Int) → rd x8 (j : Int) ≤ 1000000 * (q : Int) →
    impl_MatTimes.l2 (k + c + 1) a b x6 (i : Int) x8 (j : Int) (a.length : Int) (i : Int) (b.length : Int) (j : Int) (b.length : Int) (q : Int) = impl_MatTimes.l1 k a b x6 (i : Int) (x8.set j (rd x8 (j : Int) + prodC a b i j c q)) (a.length : Int) (i : Int) (b.length : Int) (wrap64 ((j : Int) + 1)) := by
  have h5 := (mvB_iff.1 ha).1.2
  induction c with
  | zero =>
    intro q x8 k hq h8 _ _
    rw [Nat.add_zero, impl_MatTimes.l2, if_neg (by omega)]
    congr 1
    have hjl : j < x8.length := by omega
    have e : rd x8 (j : Int) = x8[j] := by simp [rd, hjl]
    rw [e]; simp only [prodC, Int.add_zero]; exact (List.set_getElem_self hjl).symm
  | succ c ih =>
    intro q x8 k hq h8 h0 h1
    have r1 := xrow_len ha (i := i) hi
    have r2 := xrow_len hb (i := q) (by omega)
    have hs := step_bd ha hb hl (i := i) (j := j) (q := q) hi (by omega)
    rw [← Nat.add_assoc, impl_MatTimes.l2, if_pos (by omega), if_pos (by omega), if_pos (by omega), if_pos (by omega), if_pos (by omega), if_pos (by omega), if_pos (by omega), if_pos (by omega), if_pos (by omega),
      tw64 (x := rd (rd_L1 a (i : Int)) (q : Int) * rd (rd_L1 b (q : Int)) (j : Int)) (by omega) (by omega), tw64 (x := rd x8 (j : Int) + rd (rd_L1 a (i : Int)) (q : Int) * rd (rd_L1 b (q : Int)) (j : Int)) (by omega) (by omega), tw64 (x := (q : Int) + 1) (by omega) (by omega), Int.toNat_natCast]
    have e : rd (x8.set j (rd x8 (j : Int) + rd (rd_L1 a (i : Int)) (q : Int) * rd (rd_L1 b (q : Int)) (j : Int))) (j : Int) = rd x8 (j : Int) + rd (rd_L1 a (i : Int)) (q : Int) * rd (rd_L1 b (q : Int)) (j : Int) := by
      simp [rd, show j < x8.length by omega]
    have := ih (q + 1) (x8.set j (rd x8 (j : Int) + rd (rd_L1 a (i : Int)) (q : Int) * rd (rd_L1 b (q : Int)) (j : Int))) k (by omega) (by simpa using h8) (by rw [e]; omega) (by rw [e]; omega)
    rw [show ((q + 1 : Nat) : Int) = (q : Int) + 1 by omega] at this
    rw [this, e, List.set_set]
    simp only [prodC]
    rw [Int.add_assoc]
theorem impl_T_l1 {a b : List (List Int)} (ha : mvB a = true) (hb : mvB b = true) (hl : a.length = b.length) {i : Nat} (hi : i < a.length) {x6 : List (List Int)} (h6 : x6.length ≤ 5) (d : Nat) : ∀ (j k : Nat), j + d = a.length →
    impl_MatTimes.l1 (k + d * (a.length + 2) + 1) a b x6 (i : Int) ((List.range a.length).map fun q : Nat => if q < j then prodC a b i q a.length 0 else 0) (a.length : Int) (i : Int) (b.length : Int) (j : Int) = impl_MatTimes.l0 k a b (x6 ++ [prow a b i a.length]) (a.length : Int) (wrap64 ((i : Int) + 1)) := by
  have h5 := (mvB_iff.1 ha).1.2
  induction d with
  | zero =>
    intro j k hj
    have : j = a.length := by omega
    subst this
    rw [Nat.zero_mul, Nat.add_zero, impl_MatTimes.l1, if_neg (by omega), if_pos (by omega)]
    congr 3
    unfold prow
    refine List.map_congr_left (fun q hq => ?_)
    rw [if_pos (List.mem_range.1 hq)]
  | succ d ih =>
    intro j k hj
    rw [impl_MatTimes.l1, if_pos (by omega), show k + (d + 1) * (a.length + 2) = (k + d * (a.length + 2) + 1) + a.length + 1 by rw [Nat.succ_mul]; omega]
    have hz := prz_rd (fun q => prodC a b i q a.length 0) a.length (j := j) (by omega)
    have := impl_T_l2 ha hb hl hi (j := j) (by omega) (x6 := x6) a.length 0 ((List.range a.length).map fun q : Nat => if q < j then prodC a b i q a.length 0 else 0) (k + d * (a.length + 2) + 1) (by omega) (by simp) (by rw [hz]; omega) (by rw [hz]; omega)
    rw [show ((0 : Nat) : Int) = 0 from rfl, hz, prz_set (fun q => prodC a b i q a.length 0)] at this
    rw [this, tw64 (by omega) (by omega)]
    have := ih (j + 1) k (by omega)
    rw [show ((j + 1 : Nat) : Int) = (j : Int) + 1 by omega] at this
    exact this
theorem impl_T_l0 {a b : List (List Int)} (ha : mvB a = true) (hb : mvB b = true) (hl : a.length = b.length) (d : Nat) : ∀ (i k : Nat), i + d = a.length → 100 * d + 100 < k → impl_MatTimes.l0 k a b (prodM a b i) (a.length : Int) (i : Int) = some (if mvB (prodM a b a.length) = true then (prodM a b a.length, true) else ([], false)) := by
  have h5 := (mvB_iff.1 ha).1.2
  have hnn : a.length * (a.length + 2) ≤ 35 := Nat.mul_le_mul h5 (show a.length + 2 ≤ 7 by omega)
  induction d with
  | zero =>
    intro i k hi hk
    obtain ⟨k, rfl⟩ : ∃ m, k = m + 1 := ⟨k - 1, by omega⟩
    have : i = a.length := by omega
    subst this
    rw [impl_MatTimes.l0, if_neg (by omega), impl_MatValid_eq _ _ (by omega) (fun r hr => by
      unfold prodM at hr
      obtain ⟨q, _, rfl⟩ := List.mem_map.1 hr
      rw [prow_length]; omega)]
    simp only [Option.bind_some]
    by_cases h : mvB (prodM a b a.length) = true
    · rw [if_pos h, if_pos h]
    · rw [if_neg h, if_neg h]
  | succ d ih =>
    intro i k hi hk
    obtain ⟨k, rfl⟩ : ∃ q, k = (q + a.length * (a.length + 2) + 1) + 1 := ⟨k - a.length * (a.length + 2) - 2, by omega⟩
    rw [impl_MatTimes.l0, if_pos (by omega), if_pos (by omega), if_pos (by omega), Int.toNat_natCast]
    have := impl_T_l1 ha hb hl (i := i) (by omega) (x6 := prodM a b i) (by rw [prodM_length]; omega) a.length 0 k (by omega)
    have e0 : ((List.range a.length).map fun q : Nat => if q < 0 then prodC a b i q a.length 0 else 0) = List.replicate a.length 0 := by
      refine List.ext_getElem (by simp) (fun q h1 h2 => ?_)
      simp
    rw [e0, show ((0 : Nat) : Int) = 0 from rfl, prodM_succ] at this
    rw [this, tw64 (by omega) (by omega)]
    have := ih (i + 1) k (by omega) (by omega)
    rw [show ((i + 1 : Nat) : Int) = (i : Int) + 1 by omega] at this
    exact this
/-- What MatTimes answers. -/
def timesR (a b : List (List Int)) : List (List Int) × Bool := if mvB a = true ∧ mvB b = true ∧ a.length = b.length then (if mvB (prodM a b a.length) = true then (prodM a b a.length, true) else ([], false)) else ([], false)
theorem timesR_tot (a b : List (List Int)) : tot (timesR a b).1 ≤ 30 := by
  unfold timesR
  split
  · rename_i h
    split
    · exact prodM_tot h.1
    · simp [tot]
  · simp [tot]
theorem spec_MatTimes_eq (k : Nat) (a b : List (List Int)) (ta : tot a ≤ 1048576) (tb : tot b ≤ 1048576) (hk : 3000000 < k) : spec_MatTimes.f k a b = some (timesR a b) := by
  obtain ⟨k, rfl⟩ : ∃ m, k = m + 1 := ⟨k - 1, by omega⟩
  have la := tot_len a
  have lb := tot_len b
  unfold spec_MatTimes.f timesR
  simp only [Option.bind_some]
  rw [spec_MatValid_eq _ a ta (by omega), spec_MatValid_eq _ b tb (by omega)]
  simp only [Option.bind_some, spec_MatTimes.j0]
  by_cases h : mvB a = true
  · have h5 := (mvB_iff.1 h).1.2
    rw [if_pos h]
    by_cases h2 : mvB b = true
    · rw [if_pos h2]
      by_cases h3 : a.length = b.length
      · rw [if_neg (by simp [h3]), if_pos ⟨h, h2, h3⟩]
        exact spec_T_l0 h h2 h3 a.length 0 k (by omega) (by omega)
      · rw [if_pos (by simp; omega), if_neg (fun q => h3 q.2.2)]
    · rw [if_neg h2, if_pos trivial, if_neg (fun q => h2 q.2.1)]
  · rw [if_neg h, if_pos trivial, if_neg (fun q => h q.1)]
theorem impl_MatTimes_eq (k : Nat) (a b : List (List Int)) (ta : tot a ≤ 1048576) (tb : tot b ≤ 1048576) (hk : 1000 < k) : impl_MatTimes.f k a b = some (timesR a b) := by
  obtain ⟨k, rfl⟩ : ∃ m, k = m + 1 := ⟨k - 1, by omega⟩
  unfold impl_MatTimes.f timesR
  rw [impl_MatValid_eq _ a (by omega) (fun r h => by have := tot_mem h; omega), impl_MatValid_eq _ b (by omega) (fun r h => by have := tot_mem h; omega)]
  simp only [Option.bind_some, impl_MatTimes.j0]
  by_cases h : mvB a = true
  · have h5 := (mvB_iff.1 h).1.2
    rw [if_pos h]
    by_cases h2 : mvB b = true
    · rw [if_pos h2]
      by_cases h3 : a.length = b.length
      · rw [if_neg (by simp [h3]), if_pos (by omega), if_pos (by omega), if_pos ⟨h, h2, h3⟩]
        exact impl_T_l0 h h2 h3 a.length 0 k (by omega) (by omega)
      · rw [if_pos (by simp; omega), if_neg (fun q => h3 q.2.2)]
    · rw [if_neg h2, if_pos trivial, if_neg (fun q => h2 q.2.1)]
  · rw [if_neg h, if_pos trivial, if_neg (fun q => h q.1)]
theorem szIntSS_at (k : Nat) (l : List (List Int)) (a : Int) (hk : 1048577 < k) (h : l.length ≤ maxLen) (hr : ∀ r ∈ l, r.length ≤ maxLen) (h0 : 0 ≤ a) (h1 : a ≤ 1048576) :
    ∃ c, laws_szIntSS.f k l a = some c ∧ (0 ≤ c → tot l ≤ 1048576) := by
  have h' := h
  unfold maxLen at h'
  unfold laws_szIntSS.f
  rw [tw64 (by omega) (by omega)]
  by_cases q : a - l.length < 0
  · rw [if_pos q]; exact ⟨-1, rfl, fun h => by omega⟩
  · rw [if_neg q]
    obtain ⟨c, hc, hq⟩ := szIntSS_l0 l [] (a - l.length) k (by omega) (by simp; omega) (by omega) (by omega) hr
    exact ⟨c, by simpa using hc, fun h => by have := hq h; omega⟩
theorem szIntSS_l0_le (suf : List (List Int)) : ∀ (pre : List (List Int)) (a c : Int) (k : Nat), laws_szIntSS.l0 k (pre ++ suf) a (pre.length : Int) = some c → pre.length + suf.length ≤ 1048576 → 0 ≤ a → a ≤ 1048576 → (∀ r ∈ suf, r.length ≤ maxLen) → c ≤ 1048576 := by
  induction suf with
  | nil =>
    intro pre a c k h _ h0 h1 _
    cases k with
    | zero => simp [laws_szIntSS.l0] at h
    | succ k => simp [laws_szIntSS.l0] at h; omega
  | cons y suf ih =>
    intro pre a c k h hl h0 h1 hr
    simp only [List.length_cons] at hl
    cases k with
    | zero => simp [laws_szIntSS.l0] at h
    | succ k =>
      rw [laws_szIntSS.l0, if_pos (len_midM _ _ _), if_pos (by omega), rd_midM, szIntS_eq y a (hr y List.mem_cons_self) h0 h1] at h
      simp only [Option.bind_some] at h
      by_cases q : (y.length : Int) ≤ a
      · rw [if_pos q, if_neg (by omega), next_midM pre y (by omega), app_midM pre suf y] at h
        exact ih (pre ++ [y]) (a - y.length) c k h (by simp; omega) (by omega) (by omega) (fun r h => hr r (List.mem_cons_of_mem _ h))
      · rw [if_neg q, if_pos (by omega)] at h
        simp at h; omega
theorem FnExactMatTimes : laws_FnExactMatTimes.Pure := by
  intro l0 l1 hm0 hr0 hm1 hr1
  obtain ⟨c, hc, hq⟩ := szIntSS_ok 4000000 l0 (by omega) hm0 (fun r h => (hr0 r h).1)
  refine ⟨4000000, c, hc, fun h => ?_⟩
  have t0 := hq (by omega)
  have n0 := tot_len l0
  have hcl : c ≤ 1048576 := by
    unfold laws_szIntSS.f at hc
    rw [tw64 (by omega) (by omega), if_neg (by omega)] at hc
    have := szIntSS_l0_le l0 [] (1048576 - l0.length) c 4000000 (by simpa using hc) (by simp; omega) (by omega) (by omega) (fun r h => (hr0 r h).1)
    exact this
  obtain ⟨d, hd, hq1⟩ := szIntSS_at 4000000 l1 c (by omega) hm1 (fun r h => (hr1 r h).1) (by omega) hcl
  refine ⟨d, hd, fun h2 => ?_⟩
  have t1 := hq1 (by omega)
  have n1 := tot_len l1
  have htt := timesR_tot l0 l1
  have c0 := cnt_tot l0
  have c1 := cnt_tot l1
  have e1 : laws_markIntSS.f 4000000 l1 (1 + (cnt l0 : Int)) = some (1 + (cnt l0 : Int) + cnt l1, ascS (1 + (cnt l0 : Int)) l1) := by
    have := markIntSS_l0 1048576 l1 [] (1 + (cnt l0 : Int)) 4000000 (by omega) (by simp; omega) (fun r h => by have := tot_mem h; omega) (by omega) (by omega)
    simpa [laws_markIntSS.f] using this
  exact ⟨(timesR l0 l1).1, (timesR l0 l1).2, 1 + (cnt l0 : Int), 1 + (cnt l0 : Int) + cnt l1, 1 + (cnt (timesR l0 l1).1 : Int), ascS 1 l0, ascS (1 + (cnt l0 : Int)) l1, ascS 1 (timesR l0 l1).1, toIntSS_eq _ l0 t0 (by omega), toIntSS_eq _ l1 t1 (by omega),
    spec_MatTimes_eq _ _ _ t0 t1 (by omega), impl_MatTimes_eq _ _ _ t0 t1 (by omega), eqIntSS_self _ _ (by omega) (by omega), eqIntSS_self _ l0 t0 (by omega), eqIntSS_self _ l1 t1 (by omega), markIntSS_eq _ l0 t0 (by omega), e1, by omega, markIntSS_eq _ _ (by omega) (by omega), (ascS_length _ _).symm, heldIntSS_eq _ _ (by omega) (by omega), by omega⟩
end Go.Proofs.Ytimhiijedmfeaaa.Pure
