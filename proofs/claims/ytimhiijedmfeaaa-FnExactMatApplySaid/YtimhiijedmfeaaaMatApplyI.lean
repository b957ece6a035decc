/- A closed form of the program's MatApply (chapter 21). -/
import Derived.Test.YtimhiijedmfeaaaMatsI
import Derived.Test.YtimhiijedmfeaaaQ10
namespace Go.Proofs.Ytimhiijedmfeaaa.Pure
open Go.RowKit Go.Proofs.Ytimhiijedmfeaaa.Q Go.Proofs.YtimhiijedmfeaaaW.PrintWords Go.Proofs.YtimhiijedmfeaaaW.PrintLast Go.Proofs.YtimhiijedmfeaaaW.PrintMore
theorem tmulb {x y m n : Int} (hx : -m ≤ x ∧ x ≤ m) (hy : -n ≤ y ∧ y ≤ n) (hm : 0 ≤ m) (hn : 0 ≤ n) : -(m * n) ≤ x * y ∧ x * y ≤ m * n := by
  have h1 : x.natAbs ≤ m.toNat := by omega
  have h2 : y.natAbs ≤ n.toNat := by omega
  have h3 : (x * y).natAbs ≤ m.toNat * n.toNat := by rw [Int.natAbs_mul]; exact Nat.mul_le_mul h1 h2
  have h4 : ((m.toNat * n.toNat : Nat) : Int) = m * n := by rw [Int.natCast_mul, Int.toNat_of_nonneg hm, Int.toNat_of_nonneg hn]
  omega
theorem inB_at {m : Int} (hm : 0 ≤ m) {l : List Int} (h : ∀ x ∈ l, -m ≤ x ∧ x ≤ m) (i : Int) : -m ≤ rd l i ∧ rd l i ≤ m := by
  unfold rd
  by_cases hi : i.toNat < l.length
  · rw [List.getD_eq_getElem?_getD, List.getElem?_eq_getElem hi]; exact h _ (List.getElem_mem hi)
  · rw [List.getD_eq_getElem?_getD, List.getElem?_eq_none (by omega)]; simp; omega
/-- The sum of products of c numbers, from index i on. -/
def dotC (r v : List Int) : Nat → Nat → Int
  | 0, _ => 0
  | c + 1, i => rd r (i : Int) * rd v (i : Int) + dotC r v c (i + 1)
theorem dot_step {r v : List Int} (hr : ∀ x ∈ r, -1000 ≤ x ∧ x ≤ 1000) (hv : ∀ x ∈ v, -1000000 ≤ x ∧ x ≤ 1000000) (i : Int) :
    -1000000000 ≤ rd r i * rd v i ∧ rd r i * rd v i ≤ 1000000000 ∧ wrap64 (rd r i * rd v i) = rd r i * rd v i := by
  have b := tmulb (inB_at (by omega) hr i) (inB_at (by omega) hv i) (by omega) (by omega)
  rw [tw64 (by omega) (by omega)]
  omega
theorem dotC_bd {r v : List Int} (hr : ∀ x ∈ r, -1000 ≤ x ∧ x ≤ 1000) (hv : ∀ x ∈ v, -1000000 ≤ x ∧ x ≤ 1000000) (c : Nat) : ∀ i, -(1000000000 * (c : Int)) ≤ dotC r v c i ∧ dotC r v c i ≤ 1000000000 * (c : Int) := by
  induction c with
  | zero => intro i; simp [dotC]
  | succ c ih =>
    intro i
    have h1 := ih (i + 1)
    have h2 := dot_step hr hv (i : Int)
    simp only [dotC]
    omega
theorem impl_Apply_l1 {m : List (List Int)} {v r : List Int} {M : Int} {n : Nat} (hr : ∀ x ∈ r, -1000 ≤ x ∧ x ≤ 1000) (hv : ∀ x ∈ v, -1000000 ≤ x ∧ x ≤ 1000000) (hrn : r.length = n) (hvn : v.length = n) (h5 : n ≤ 5) {i : Nat} (c : Nat) :
    ∀ (j : Nat) (x : List Int) (k : Nat), j + c = n → i < x.length → -(1000000000 * (j : Int)) ≤ rd x (i : Int) → rd x (i : Int) ≤ 1000000000 * (j : Int) →
    impl_MatApply.l1 (k + c + 1) v x (i : Int) m M (i : Int) r (n : Int) (j : Int) = impl_MatApply.l0 k v (x.set i (rd x (i : Int) + dotC r v c j)) m M (wrap64 ((i : Int) + 1)) := by
  induction c with
  | zero =>
    intro j x k hj hi _ _
    rw [Nat.add_zero, impl_MatApply.l1, if_neg (by omega)]
    congr 1
    have e : rd x (i : Int) = x[i] := by simp [rd, hi]
    rw [e]; simp only [dotC, Int.add_zero]; exact (List.set_getElem_self hi).symm
  | succ c ih =>
    intro j x k hj hi h0 h1
    have hd := dot_step hr hv (j : Int)
    rw [← Nat.add_assoc, impl_MatApply.l1, if_pos (by omega), if_pos (by omega), if_pos (by omega), if_pos (by omega), if_pos (by omega), if_pos (by omega), hd.2.2, tw64 (x := rd x (i : Int) + rd r (j : Int) * rd v (j : Int)) (by omega) (by omega), tw64 (x := (j : Int) + 1) (by omega) (by omega), Int.toNat_natCast]
    have e : rd (x.set i (rd x (i : Int) + rd r (j : Int) * rd v (j : Int))) (i : Int) = rd x (i : Int) + rd r (j : Int) * rd v (j : Int) := by
      simp [rd, hi]
    have := ih (j + 1) (x.set i (rd x (i : Int) + rd r (j : Int) * rd v (j : Int))) k (by omega) (by simpa using hi) (by rw [e]; omega) (by rw [e]; omega)
    rw [show ((j + 1 : Nat) : Int) = (j : Int) + 1 by omega] at this
    rw [this, e, List.set_set]
    simp only [dotC]
    rw [Int.add_assoc]
/-- What MatApply answers. -/
def applyR (m : List (List Int)) (v : List Int) : List Int × Bool := if mvB m = true ∧ v.length = m.length ∧ inB 1000000 v = true then (m.map (fun r => dotC r v m.length 0), true) else ([], false)
theorem applyR_length (m : List (List Int)) (v : List Int) : (applyR m v).1.length ≤ 5 := by
  unfold applyR
  split
  · rename_i h; have := (mvB_iff.1 h.1).1; rw [List.length_map]; omega
  · simp
theorem impl_Apply_l0 {m : List (List Int)} {v : List Int} (hm : mvB m = true) (hvn : v.length = m.length) (hv : ∀ x ∈ v, -1000000 ≤ x ∧ x ≤ 1000000) (suf : List (List Int)) : ∀ (pre : List (List Int)) (k : Nat), 10 * suf.length < k → m = pre ++ suf →
    impl_MatApply.l0 k v (pre.map (fun r => dotC r v m.length 0) ++ List.replicate suf.length 0) m (m.length : Int) (pre.length : Int) = some (m.map (fun r => dotC r v m.length 0), true) := by
  have hm' := mvB_iff.1 hm
  induction suf with
  | nil =>
    intro pre k hk he
    obtain ⟨k, rfl⟩ : ∃ m, k = m + 1 := ⟨k - 1, by omega⟩
    rw [List.append_nil] at he
    subst he
    rw [impl_MatApply.l0, if_neg (by omega)]; simp
  | cons y suf ih =>
    intro pre k hk he
    rw [List.length_cons] at hk
    have hlen : m.length = pre.length + suf.length + 1 := by rw [he]; simp; omega
    obtain ⟨k, rfl⟩ : ∃ q, k = (q + m.length + 1) + 1 := ⟨k - m.length - 2, by omega⟩
    have hy : rd_L1 m (pre.length : Int) = y := by rw [he]; exact rd_midM pre suf y
    have hym := hm'.2 y (by rw [he]; simp)
    rw [impl_MatApply.l0, if_pos (by omega), if_pos (by omega), if_pos (by omega), hy, hym.1]
    have e0 : rd (pre.map (fun r => dotC r v m.length 0) ++ List.replicate (y :: suf).length 0) (pre.length : Int) = 0 := by simp [rd, List.replicate_succ]
    have := impl_Apply_l1 (m := m) (M := (m.length : Int)) (n := m.length) (i := pre.length) hym.2 hv hym.1 hvn hm'.1.2 m.length 0 (pre.map (fun r => dotC r v m.length 0) ++ List.replicate (y :: suf).length 0) k (by omega) (by simp) (by rw [e0]; omega) (by rw [e0]; omega)
    rw [show ((0 : Nat) : Int) = 0 from rfl] at this
    rw [this, e0, next_midM pre y (by omega)]
    have e1 : (pre.map (fun r => dotC r v m.length 0) ++ List.replicate (y :: suf).length 0).set pre.length (0 + dotC y v m.length 0) = (pre ++ [y]).map (fun r => dotC r v m.length 0) ++ List.replicate suf.length 0 := by
      rw [List.length_cons, List.replicate_succ, List.set_append_right _ _ (by simp)]; simp
    rw [e1]
    exact ih (pre ++ [y]) k (by omega) (by rw [he]; simp)
theorem impl_MatApply_eq (k : Nat) (m : List (List Int)) (v : List Int) (hk : 100 < k) (hr : ∀ r ∈ m, r.length ≤ 1048576) (hv : v.length ≤ 1048576) : impl_MatApply.f k m v = some (applyR m v) := by
  obtain ⟨k, rfl⟩ : ∃ m, k = m + 1 := ⟨k - 1, by omega⟩
  unfold impl_MatApply.f applyR
  rw [impl_MatValid_eq _ m (by omega) hr]
  simp only [Option.bind_some, impl_MatApply.j0]
  by_cases h : mvB m = true
  · have hm' := mvB_iff.1 h
    rw [if_pos h, listValid_eq _ v m.length 1000000 (by omega) (by omega) (by omega) hv]
    simp only [Option.bind_some]
    by_cases hl : v.length = m.length
    · by_cases hb : inB 1000000 v = true
      · rw [decide_eq_true (by omega), hb, if_neg (by simp), if_pos (by omega), if_pos (by omega), if_pos ⟨h, hl, rfl⟩, Int.toNat_natCast]
        have := impl_Apply_l0 h hl (inB_iff.1 hb) m [] k (by omega) rfl
        simpa using this
      · rw [Bool.eq_false_iff.2 hb, Bool.and_false, if_pos (by simp), if_neg (fun q => by cases q.2.2)]
    · rw [decide_eq_false (by omega), Bool.false_and, if_pos (by simp), if_neg (fun q => hl q.2.1)]
  · rw [if_neg h, if_pos trivial, if_neg (fun q => h q.1)]

end Go.Proofs.Ytimhiijedmfeaaa.Pure
