/- Double areas as sums, without wrapping; lists begun elsewhere, turned, or in the opposite order. -/
import Derived.Test.YtgdhgncdpmalcaaSums
import Derived.Test.YtgdhgncdpmalcaaAreaL
import Derived.Test.YtgdhgncdpmalcaaBackL
import Derived.Test.YtgdhgncdpmalcaaRingPolyArea
import Derived.Test.YtgdhgncdpmalcaaQ15
import Derived.Test.YtgdhgncdpmalcaaQ16
import Derived.Test.YtgdhgncdpmalcaaQ17
import Derived.Test.YtgdhgncdpmalcaaQ19
import Derived.Test.YtgdhgncdpmalcaaQ3
namespace Go.Proofs.Ytgdhgncdpmalcaa.Pure
open Go.RowKit Go.Proofs.Ytgdhgncdpmalcaa.Q Go.Proofs.Ytgdhgncdpmalcaa.Ring Go.Proofs.Ytgdhgncdpmalcaa.Geo Go.Proofs.YtgdhgncdpmalcaaW.PrintWords Go.Proofs.YtgdhgncdpmalcaaW.PrintLast
/-- Corner i of a list, gone round as often as it takes. -/
def PC (l : List Pt) (i : Nat) : Pt := at_ l (i % l.length)
theorem PC_at {l : List Pt} {i : Nat} (h : i < l.length) : PC l i = at_ l i := by unfold PC; rw [Nat.mod_eq_of_lt h]
theorem PC_per (l : List Pt) (i : Nat) : PC l (i + l.length) = PC l i := by unfold PC; rw [Nat.add_mod_right]
theorem PC_nxt {l : List Pt} {i : Nat} : nxt l i = PC l (i + 1) := rfl
def crI (p q : Pt) : Int := p.f0 * q.f1 - q.f0 * p.f1
theorem crI_swap (p q : Pt) : crI q p = -(crI p q) := by unfold crI; omega
def area2 (l : List Pt) : Int := sm 0 l.length (fun i => crI (PC l i) (PC l (i + 1)))
theorem at_mem {l : List Pt} {j : Nat} (hj : j < l.length) : at_ l j ∈ l := by unfold at_; rw [List.getD_eq_getElem?_getD, List.getElem?_eq_getElem hj]; exact List.getElem_mem hj
theorem cv_at {l : List Pt} (h : cvB l = true) (i : Nat) : (-10000 ≤ (PC l i).f0 ∧ (PC l i).f0 ≤ 10000) ∧ -10000 ≤ (PC l i).f1 ∧ (PC l i).f1 ≤ 10000 := by
  have hv := cvB_iff.1 h
  exact ptB_iff.1 (hv.2 _ (at_mem (Nat.mod_lt _ (by omega))))
theorem mulX {x y : Int} (hx : -10000 ≤ x ∧ x ≤ 10000) (hy : -10000 ≤ y ∧ y ≤ 10000) : -100000000 ≤ x * y ∧ x * y ≤ 100000000 := by
  have h1 : x.natAbs ≤ 10000 := by omega
  have h2 : y.natAbs ≤ 10000 := by omega
  have h3 : (x * y).natAbs ≤ 10000 * 10000 := by rw [Int.natAbs_mul]; exact Nat.mul_le_mul h1 h2
  omega
theorem crI_bd {p q : Pt} (hp : (-10000 ≤ p.f0 ∧ p.f0 ≤ 10000) ∧ -10000 ≤ p.f1 ∧ p.f1 ≤ 10000) (hq : (-10000 ≤ q.f0 ∧ q.f0 ≤ 10000) ∧ -10000 ≤ q.f1 ∧ q.f1 ≤ 10000) : -200000000 ≤ crI p q ∧ crI p q ≤ 200000000 := by
  have h1 := mulX hp.1 hq.2
  have h2 := mulX hq.1 hp.2
  unfold crI; omega
theorem crossP_eq {p q : Pt} (hp : (-10000 ≤ p.f0 ∧ p.f0 ≤ 10000) ∧ -10000 ≤ p.f1 ∧ p.f1 ≤ 10000) (hq : (-10000 ≤ q.f0 ∧ q.f0 ≤ 10000) ∧ -10000 ≤ q.f1 ∧ q.f1 ≤ 10000) : crossP p q = crI p q := by
  have h1 := mulX hp.1 hq.2
  have h2 := mulX hq.1 hp.2
  unfold crossP crI
  rw [pw64 (x := p.f0 * q.f1) (by omega) (by omega), pw64 (x := q.f0 * p.f1) (by omega) (by omega), pw64 (by omega) (by omega)]
theorem areaS_sm {l : List Pt} (h : cvB l = true) (j : Nat) (hj : j ≤ l.length) : areaS l j = sm 0 j (fun i => crI (PC l i) (PC l (i + 1))) := by
  have hv := cvB_iff.1 h
  induction j with
  | zero => rfl
  | succ j ih =>
    have e := ih (by omega)
    have b := sm_bd (lo := 0) (k := j) (f := fun i => crI (PC l i) (PC l (i + 1))) (B := 200000000) (fun i _ _ => crI_bd (cv_at h i) (cv_at h (i + 1)))
    have c := crI_bd (cv_at h j) (cv_at h (j + 1))
    rw [areaS, sm, e, PC_nxt, ← PC_at (show j < l.length by omega), crossP_eq (cv_at h j) (cv_at h (j + 1)), pw64 (by omega) (by omega), Nat.zero_add]
theorem areaS_eq {l : List Pt} (h : cvB l = true) : areaS l l.length = area2 l := areaS_sm h _ (Nat.le_refl _)
theorem area2_bd {l : List Pt} (h : cvB l = true) : -2400000000 ≤ area2 l ∧ area2 l ≤ 2400000000 := by
  have hv := cvB_iff.1 h
  have := sm_bd (lo := 0) (k := l.length) (f := fun i => crI (PC l i) (PC l (i + 1))) (B := 200000000) (fun i _ _ => crI_bd (cv_at h i) (cv_at h (i + 1)))
  unfold area2; omega
/-! lists begun elsewhere -/
def begL (l : List Pt) (k : Nat) : List Pt := l.drop k ++ l.take k
theorem begL_length {l : List Pt} {k : Nat} (hk : k ≤ l.length) : (begL l k).length = l.length := by unfold begL; rw [List.length_append, List.length_drop, List.length_take]; omega
theorem at_app (a b : List Pt) (i : Nat) : at_ (a ++ b) i = if i < a.length then at_ a i else at_ b (i - a.length) := by
  unfold at_
  simp only [List.getD_eq_getElem?_getD]
  by_cases h : i < a.length
  · rw [if_pos h, List.getElem?_append_left h]
  · rw [if_neg h, List.getElem?_append_right (by omega)]
theorem at_drop (l : List Pt) (k i : Nat) : at_ (l.drop k) i = at_ l (k + i) := by unfold at_; simp [List.getD_eq_getElem?_getD, List.getElem?_drop]
theorem at_take {l : List Pt} {k i : Nat} (h : i < k) : at_ (l.take k) i = at_ l i := by unfold at_; simp [List.getD_eq_getElem?_getD, h]
theorem at_beg {l : List Pt} {k r : Nat} (hk : k < l.length) (hr : r < l.length) : at_ (begL l k) r = at_ l ((r + k) % l.length) := by
  unfold begL
  rw [at_app, List.length_drop]
  by_cases h : r < l.length - k
  · rw [if_pos h, at_drop, Nat.mod_eq_of_lt (by omega), Nat.add_comm]
  · rw [if_neg h, at_take (by omega)]
    have e : (r + k) % l.length = r - (l.length - k) := by
      rw [show r + k = (r - (l.length - k)) + l.length by omega, Nat.add_mod_right, Nat.mod_eq_of_lt (by omega)]
    rw [e]
theorem PC_beg {l : List Pt} {k : Nat} (hk : k < l.length) (i : Nat) : PC (begL l k) i = PC l (i + k) := by
  unfold PC
  rw [begL_length (by omega), at_beg hk (Nat.mod_lt _ (by omega)), Nat.mod_add_mod]
theorem area2_beg {l : List Pt} {k : Nat} (hk : k < l.length) : area2 (begL l k) = area2 l := by
  unfold area2
  rw [begL_length (by omega)]
  have e : sm 0 l.length (fun i => crI (PC (begL l k) i) (PC (begL l k) (i + 1))) = sm 0 l.length (fun j => (fun i => crI (PC l i) (PC l (i + 1))) (k + j)) :=
    sm_congr (fun j _ _ => by rw [PC_beg hk, PC_beg hk, show j + k = k + j by omega, show j + 1 + k = k + j + 1 by omega])
  rw [e, ← sm_sh l.length k (fun i => crI (PC l i) (PC l (i + 1))), sm_period (fun i => by rw [PC_per, show i + l.length + 1 = i + 1 + l.length by omega, PC_per])]
theorem cv_beg {l : List Pt} {k : Nat} (hk : k ≤ l.length) : cvB (begL l k) = cvB l := by
  have e : ∀ p, p ∈ begL l k ↔ p ∈ l := fun p => by
    unfold begL
    rw [List.mem_append, Or.comm, ← List.mem_append, List.take_append_drop]
  unfold cvB
  rw [begL_length hk]
  congr 1
  rw [Bool.eq_iff_iff, List.all_eq_true, List.all_eq_true]
  exact ⟨fun h p hp => h p ((e p).2 hp), fun h p hp => h p ((e p).1 hp)⟩
theorem begunAt_eq {l : List Pt} {k : Nat} (hk : k ≤ l.length) (hl : l.length ≤ 100) : laws_begunAt.f l (k : Int) = some (begL l k) := by
  unfold laws_begunAt.f begL
  rw [Option.bind_some, if_pos (by omega), if_pos (by omega), Int.toNat_natCast]
  simp only [Option.bind_some, List.nil_append, List.length_nil]
  rw [if_pos (by simp; omega), if_pos (by simp; omega)]
/-! the opposite order -/
theorem PC_back {l : List Pt} {i : Nat} (hi : i ≤ l.length) : PC (backL l) i = PC l (l.length - i) := by
  cases l with
  | nil => simp [PC, backL, at_]
  | cons p l =>
    have hlen : (backL (p :: l)).length = (p :: l).length := by simp [backL]
    unfold PC
    rw [hlen]
    by_cases h0 : i = 0
    · subst h0
      simp [backL, at_]
    · by_cases h1 : i = (p :: l).length
      · subst h1
        simp [backL, at_]
      · have hi' : i < (p :: l).length := by omega
        rw [Nat.mod_eq_of_lt hi', Nat.mod_eq_of_lt (by omega)]
        obtain ⟨j, rfl⟩ : ∃ j, i = j + 1 := ⟨i - 1, by omega⟩
        simp only [List.length_cons] at hi' ⊢
        rw [show l.length + 1 - (j + 1) = (l.length - 1 - j) + 1 by omega]
        unfold at_ backL
        simp only [List.getD_eq_getElem?_getD, List.getElem?_cons_succ]
        rw [List.getElem?_reverse (by omega)]
theorem area2_back {l : List Pt} : area2 (backL l) = -(area2 l) := by
  have hlen : (backL l).length = l.length := by cases l <;> simp [backL]
  unfold area2
  rw [hlen, ← sm_neg, ← sm_rev l.length (fun i => -(crI (PC l i) (PC l (i + 1))))]
  exact sm_congr (fun j _ hj => by
    rw [PC_back (by omega), PC_back (by omega), ← crI_swap]
    rw [show l.length - 1 - j + 1 = l.length - j by omega, show l.length - 1 - j = l.length - (j + 1) by omega])
theorem cv_back (l : List Pt) : cvB (backL l) = cvB l := by
  cases l with
  | nil => rfl
  | cons p l => unfold cvB backL; simp
/-! turned -/
def turnP (p : Pt) : Pt := ⟨-p.f1, p.f0⟩
theorem turned_l0 {l : List Pt} (hl : l.length ≤ 100) (hb : ∀ p ∈ l, -10000 ≤ p.f1 ∧ p.f1 ≤ 10000) (suf : List Pt) : ∀ (pre : List Pt) (k : Nat), suf.length < k → l = pre ++ suf → laws_turned.l0 k l (pre.map turnP) (pre.length : Int) = some (l.map turnP) := by
  induction suf with
  | nil =>
    intro pre k hk he
    obtain ⟨k, rfl⟩ : ∃ m, k = m + 1 := ⟨k - 1, by omega⟩
    rw [laws_turned.l0, if_neg (by rw [he]; simp)]
    rw [he]; simp
  | cons y suf ih =>
    intro pre k hk he
    obtain ⟨k, rfl⟩ : ∃ m, k = m + 1 := ⟨k - 1, by omega⟩
    simp only [List.length_cons] at hk
    have hlen : l.length = pre.length + suf.length + 1 := by rw [he]; simp; omega
    have hy := hb y (by rw [he]; simp)
    have er : rd_T32 l (pre.length : Int) = y := by rw [he]; exact rd_midP pre suf y
    rw [laws_turned.l0, if_pos (by omega), if_pos (by omega), if_pos (by simp; omega), er, pw64 (x := -y.f1) (by omega) (by omega), next_midP pre y (by omega)]
    have := ih (pre ++ [y]) k (by omega) (by rw [he]; simp)
    rw [List.map_append, List.map_singleton] at this
    exact this
theorem turned_eq {k : Nat} {l : List Pt} (h : cvB l = true) (hk : l.length < k) : laws_turned.f k l = some (l.map turnP) := by
  have hv := cvB_iff.1 h
  exact turned_l0 (by omega) (fun p hp => (ptB_iff.1 (hv.2 p hp)).2) l [] k hk rfl
theorem at_map {f : Pt → Pt} {l : List Pt} {i : Nat} (h : i < l.length) : at_ (l.map f) i = f (at_ l i) := by
  unfold at_
  simp only [List.getD_eq_getElem?_getD, List.getElem?_map, List.getElem?_eq_getElem h, Option.map_some, Option.getD_some]
theorem PC_map {f : Pt → Pt} {l : List Pt} (h0 : 0 < l.length) (i : Nat) : PC (l.map f) i = f (PC l i) := by
  unfold PC; rw [List.length_map, at_map (Nat.mod_lt _ h0)]
theorem area2_turn {l : List Pt} : area2 (l.map turnP) = area2 l := by
  unfold area2
  rw [List.length_map]
  exact sm_congr (fun j _ hj => by
    rw [PC_map (by omega), PC_map (by omega)]
    unfold crI turnP
    dsimp only
    rw [Int.neg_mul, Int.neg_mul, Int.mul_comm (PC l j).f1, Int.mul_comm (PC l (j + 1)).f1]; omega)
theorem cv_turn {l : List Pt} (h : cvB l = true) : cvB (l.map turnP) = true := by
  have hv := cvB_iff.1 h
  refine cvB_iff.2 ⟨by rw [List.length_map]; exact hv.1, fun p hp => ?_⟩
  obtain ⟨q, hq, rfl⟩ := List.mem_map.1 hp
  have := ptB_iff.1 (hv.2 q hq)
  exact ptB_iff.2 ⟨by unfold turnP; dsimp only; omega, by unfold turnP; dsimp only; omega⟩
/-! what PolyArea answers -/
def areaR (l : List Pt) : Int × Bool := if cvB l = true then (area2 l, true) else (0, false)
theorem implArea_eq (l : List Pt) : impl_PolyArea.f l = some (areaR l) := by
  unfold impl_PolyArea.f areaR
  by_cases h : cvB l = true
  · rw [if_pos h, if_pos h, areaS_eq h]
  · rw [if_neg h, if_neg h]
theorem specArea_eq (k : Nat) {l : List Pt} (hl : l.length ≤ 1048576) (hk : l.length + 30 < k) : spec_PolyArea.f k l = some (areaR l) := by
  unfold spec_PolyArea.f areaR
  rw [l31Points_eq _ _ hl (by omega)]
  simp only [Option.bind_some]
  by_cases h : cvB l = true
  · rw [if_pos h, if_pos h, spec_l31Area.f, show spec_l31Area.l0 k l 0 0 = some (areaS l l.length) from Area_l0 hl l.length 0 k (by omega) (by omega), areaS_eq h]
    rfl
  · rw [if_neg h, if_neg h]
end Go.Proofs.Ytgdhgncdpmalcaa.Pure
