/- The program's MatTurn and the reference's answer the same, for all arguments; its result shares no memory. -/
import Derived.Test.YtimhiijedmfeaaaMarkMats
import Derived.Test.YtimhiijedmfeaaaQ12
import Derived.Test.YtimhiijedmfeaaaQ13
import Derived.Test.YtimhiijedmfeaaaQ14
namespace Go.Proofs.Ytimhiijedmfeaaa.Pure
open Go.RowKit Go.Proofs.Ytimhiijedmfeaaa.Q Go.Proofs.YtimhiijedmfeaaaW.PrintWords Go.Proofs.YtimhiijedmfeaaaW.PrintLast
/-- A column, so far as i rows are gone through. -/
def colN (m : List (List Int)) (j i : Nat) : List Int := (List.range i).map fun q : Nat => rd (rd_L1 m (q : Int)) (j : Int)
theorem colN_succ (m : List (List Int)) (j i : Nat) : colN m j i ++ [rd (rd_L1 m (i : Int)) (j : Int)] = colN m j (i + 1) := by
  unfold colN; rw [List.range_succ, List.map_append]; simp
theorem colN_length (m : List (List Int)) (j i : Nat) : (colN m j i).length = i := by simp [colN]
/-- The first j columns. -/
def colsN (m : List (List Int)) (j : Nat) : List (List Int) := (List.range j).map fun q => colN m q m.length
theorem colsN_succ (m : List (List Int)) (j : Nat) : colsN m j ++ [colN m j m.length] = colsN m (j + 1) := by
  unfold colsN; rw [List.range_succ, List.map_append]; simp
theorem row_len {m : List (List Int)} (hm : mvB m = true) {i : Nat} (hi : i < m.length) : (rd_L1 m (i : Int)).length = m.length := by
  have e : rd_L1 m (i : Int) = m[i] := by simp [rd_L1, hi]
  rw [e]; exact ((mvB_iff.1 hm).2 _ (List.getElem_mem hi)).1
theorem spec_Turn_l1 {m : List (List Int)} (hm : mvB m = true) {j : Nat} (hj : j < m.length) {x4 : List (List Int)} (h4 : x4.length ≤ 5) (c : Nat) : ∀ (i k : Nat), i + c = m.length →
    spec_MatTurn.l1 (k + c + 1) m x4 (j : Int) (colN m j i) (i : Int) = spec_MatTurn.l0 k m (x4 ++ [colN m j m.length]) (wrap64 ((j : Int) + 1)) := by
  have h5 := (mvB_iff.1 hm).1.2
  induction c with
  | zero =>
    intro i k hi
    have : i = m.length := by omega
    subst this
    rw [Nat.add_zero, spec_MatTurn.l1, if_neg (by omega), if_pos (by omega)]
  | succ c ih =>
    intro i k hi
    have hr := row_len hm (i := i) (by omega)
    rw [← Nat.add_assoc, spec_MatTurn.l1, if_pos (by omega), if_pos (by omega), if_pos (by omega), if_pos (by omega), if_pos (by rw [colN_length]; omega), colN_succ, tw64 (x := (i : Int) + 1) (by omega) (by omega)]
    have := ih (i + 1) k (by omega)
    rw [show ((i + 1 : Nat) : Int) = (i : Int) + 1 by omega] at this
    exact this
theorem spec_Turn_l0 {m : List (List Int)} (hm : mvB m = true) (d : Nat) : ∀ (j k : Nat), j + d = m.length → 10 * d < k → spec_MatTurn.l0 k m (colsN m j) (j : Int) = some (colsN m m.length, true) := by
  have h5 := (mvB_iff.1 hm).1.2
  induction d with
  | zero =>
    intro j k hj hk
    obtain ⟨k, rfl⟩ : ∃ m, k = m + 1 := ⟨k - 1, by omega⟩
    have : j = m.length := by omega
    subst this
    rw [spec_MatTurn.l0, if_neg (by omega)]
  | succ d ih =>
    intro j k hj hk
    obtain ⟨k, rfl⟩ : ∃ q, k = (q + m.length + 1) + 1 := ⟨k - m.length - 2, by omega⟩
    rw [spec_MatTurn.l0, if_pos (by omega)]
    have e := spec_Turn_l1 hm (j := j) (by omega) (x4 := colsN m j) (by simp [colsN]; omega) m.length 0 k (by omega)
    rw [show colN m j 0 = [] from rfl, show ((0 : Nat) : Int) = 0 from rfl] at e
    rw [e, colsN_succ, tw64 (by omega) (by omega)]
    have := ih (j + 1) k (by omega) (by omega)
    rw [show ((j + 1 : Nat) : Int) = (j : Int) + 1 by omega] at this
    exact this
theorem impl_Turn_l1 {m : List (List Int)} (hm : mvB m = true) {j : Nat} (hj : j < m.length) {x4 : List (List Int)} (h4 : x4.length ≤ 5) (c : Nat) : ∀ (i k : Nat), i + c = m.length →
    impl_MatTurn.l1 (k + c + 1) m x4 (j : Int) (colN m j i) (m.length : Int) (j : Int) (m.length : Int) (i : Int) = impl_MatTurn.l0 k m (x4 ++ [colN m j m.length]) (m.length : Int) (wrap64 ((j : Int) + 1)) := by
  have h5 := (mvB_iff.1 hm).1.2
  induction c with
  | zero =>
    intro i k hi
    have : i = m.length := by omega
    subst this
    rw [Nat.add_zero, impl_MatTurn.l1, if_neg (by omega), if_pos (by omega)]
  | succ c ih =>
    intro i k hi
    have hr := row_len hm (i := i) (by omega)
    rw [← Nat.add_assoc, impl_MatTurn.l1, if_pos (by omega), if_pos (by omega), if_pos (by omega), if_pos (by omega), if_pos (by omega), if_pos (by rw [colN_length]; omega), colN_succ, tw64 (x := (i : Int) + 1) (by omega) (by omega)]
    have := ih (i + 1) k (by omega)
    rw [show ((i + 1 : Nat) : Int) = (i : Int) + 1 by omega] at this
    exact this
theorem impl_Turn_l0 {m : List (List Int)} (hm : mvB m = true) (d : Nat) : ∀ (j k : Nat), j + d = m.length → 10 * d < k → impl_MatTurn.l0 k m (colsN m j) (m.length : Int) (j : Int) = some (colsN m m.length, true) := by
  have h5 := (mvB_iff.1 hm).1.2
  induction d with
  | zero =>
    intro j k hj hk
    obtain ⟨k, rfl⟩ : ∃ m, k = m + 1 := ⟨k - 1, by omega⟩
    have : j = m.length := by omega
    subst this
    rw [impl_MatTurn.l0, if_neg (by omega)]
  | succ d ih =>
    intro j k hj hk
    obtain ⟨k, rfl⟩ : ∃ q, k = (q + m.length + 1) + 1 := ⟨k - m.length - 2, by omega⟩
    rw [impl_MatTurn.l0, if_pos (by omega), if_pos (by omega), if_pos (by omega)]
    have e := impl_Turn_l1 hm (j := j) (by omega) (x4 := colsN m j) (by simp [colsN]; omega) m.length 0 k (by omega)
    rw [show colN m j 0 = [] from rfl, show ((0 : Nat) : Int) = 0 from rfl] at e
    rw [e, colsN_succ, tw64 (by omega) (by omega)]
    have := ih (j + 1) k (by omega) (by omega)
    rw [show ((j + 1 : Nat) : Int) = (j : Int) + 1 by omega] at this
    exact this
/-- What MatTurn answers. -/
def turnR (m : List (List Int)) : List (List Int) × Bool := if mvB m = true then (colsN m m.length, true) else ([], false)
theorem tot_le (B : Nat) (l : List (List Int)) (h : ∀ r ∈ l, r.length ≤ B) : tot l ≤ (B + 1) * l.length := by
  induction l with
  | nil => simp [tot]
  | cons r l ih =>
    rw [tot_cons, List.length_cons, Nat.mul_succ]
    have := ih (fun x hx => h x (List.mem_cons_of_mem _ hx))
    have := h r List.mem_cons_self
    omega
theorem turnR_tot (m : List (List Int)) : tot (turnR m).1 ≤ 30 := by
  unfold turnR
  split
  · rename_i hm
    have h5 := (mvB_iff.1 hm).1.2
    have := tot_le 5 (colsN m m.length) (fun r hr => by
      unfold colsN at hr
      obtain ⟨q, _, rfl⟩ := List.mem_map.1 hr
      rw [colN_length]; omega)
    have hl : (colsN m m.length).length = m.length := by simp [colsN]
    rw [hl] at this
    show tot (colsN m m.length) ≤ 30
    omega
  · simp [tot]
theorem spec_MatTurn_eq (k : Nat) (m : List (List Int)) (ht : tot m ≤ 1048576) (hk : tot m + m.length + 100 < k) : spec_MatTurn.f k m = some (turnR m) := by
  unfold spec_MatTurn.f turnR
  simp only [Option.bind_some]
  rw [spec_MatValid_eq _ m ht (by omega)]
  simp only [Option.bind_some]
  by_cases h : mvB m = true
  · have h5 := (mvB_iff.1 h).1.2
    rw [if_pos h, if_pos h]
    exact spec_Turn_l0 h m.length 0 k (by omega) (by omega)
  · rw [if_neg h, if_neg h]
theorem impl_MatTurn_eq (k : Nat) (m : List (List Int)) (hk : 100 < k) (hr : ∀ r ∈ m, r.length ≤ 1048576) : impl_MatTurn.f k m = some (turnR m) := by
  unfold impl_MatTurn.f turnR
  rw [impl_MatValid_eq _ m (by omega) hr]
  simp only [Option.bind_some]
  by_cases h : mvB m = true
  · have h5 := (mvB_iff.1 h).1.2
    rw [if_pos h, if_pos h, if_pos (by omega), if_pos (by omega)]
    exact impl_Turn_l0 h m.length 0 k (by omega) (by omega)
  · rw [if_neg h, if_neg h]
theorem FnExactMatTurn : laws_FnExactMatTurn.Pure := by
  intro l hm hr
  obtain ⟨c, hc, hq⟩ := szIntSS_ok 4000000 l (by omega) hm (fun r h => (hr r h).1)
  refine ⟨4000000, c, hc, fun h => ?_⟩
  have ht := hq (by omega)
  have htl := tot_len l
  have hrow : ∀ r ∈ l, r.length ≤ 1048576 := fun r h => by have := tot_mem h; omega
  have htt := turnR_tot l
  exact ⟨(turnR l).1, (turnR l).2, 1 + (cnt l : Int), 1 + (cnt (turnR l).1 : Int), ascS 1 l, ascS 1 (turnR l).1, toIntSS_eq _ l ht (by omega), spec_MatTurn_eq _ l ht (by omega), impl_MatTurn_eq _ l (by omega) hrow,
    eqIntSS_self _ _ (by omega) (by omega), eqIntSS_self _ l ht (by omega), markIntSS_eq _ l ht (by omega), by omega, markIntSS_eq _ _ (by omega) (by omega), (ascS_length _ _).symm, heldIntSS_eq _ _ (by omega) (by omega), by omega⟩
end Go.Proofs.Ytimhiijedmfeaaa.Pure
