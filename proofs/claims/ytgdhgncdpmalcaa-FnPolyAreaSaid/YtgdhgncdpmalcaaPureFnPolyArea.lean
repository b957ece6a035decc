/- The area of a drawn polygon: the program answers as the reference does; the area is turned by the opposite order, kept by another beginning and by a turn, and is the sum of the areas of a fan. -/
import Derived.Test.YtgdhgncdpmalcaaAreaX
import Derived.Test.YtgdhgncdpmalcaaDrawPolys
import Derived.Test.YtgdhgncdpmalcaaQ13
import Derived.Test.YtgdhgncdpmalcaaQ15
import Derived.Test.YtgdhgncdpmalcaaQ17
import Derived.Test.YtgdhgncdpmalcaaQ18
import Derived.Test.YtgdhgncdpmalcaaQ19
import Derived.Test.YtgdhgncdpmalcaaQ20
import Derived.Test.YtgdhgncdpmalcaaQ3
namespace Go.Proofs.Ytgdhgncdpmalcaa.Pure
open Go.RowKit Go.Proofs.Ytgdhgncdpmalcaa.Q Go.Proofs.Ytgdhgncdpmalcaa.Ring Go.Proofs.Ytgdhgncdpmalcaa.Geo Go.Proofs.YtgdhgncdpmalcaaW.PrintWords Go.Proofs.YtgdhgncdpmalcaaW.PrintLast Go.Proofs.YtgdhgncdpmalcaaW.PrintMore
theorem DrawPolyArea_ok (k : Nat) (hk : 100 < k) {bs : List Int} (hbs : ∀ x ∈ bs, (Lit.int .u8 x).wf = true) : ∃ l, spec_DrawPolyArea.f k bs = some l ∧ l.length ≤ 12 := by
  unfold spec_DrawPolyArea.f
  obtain ⟨b, e1, hb⟩ := open_ok hbs
  rw [e1]; simp only [Option.bind_some]
  obtain ⟨k, rfl⟩ : ∃ m, k = m + 60 := ⟨k - 60, by omega⟩
  obtain ⟨l, q, e2, _, _, hl⟩ := l92Poly_ok k hb (p := 0) (by omega)
  rw [e2]
  exact ⟨l, rfl, hl⟩
/-- The fan from the first corner, so far as to corner j. -/
def fanS (l : List Pt) (j : Nat) : Int := sm 0 j (fun i => crI (PC l i) (PC l (i + 1))) + crI (PC l j) (PC l 0)
theorem fan_step (l : List Pt) (j : Nat) : fanS l (j + 1) = fanS l j + (crI (PC l 0) (PC l j) + crI (PC l j) (PC l (j + 1)) + crI (PC l (j + 1)) (PC l 0)) := by
  unfold fanS
  rw [sm, Nat.zero_add, crI_swap (PC l 0) (PC l j)]
  omega
theorem tri_area {l : List Pt} (h : cvB l = true) (i j k : Nat) : impl_PolyArea.f [PC l i, PC l j, PC l k] = some (crI (PC l i) (PC l j) + crI (PC l j) (PC l k) + crI (PC l k) (PC l i), true) := by
  have hc : cvB [PC l i, PC l j, PC l k] = true := cvB_iff.2 ⟨by simp, fun p hp => by
    simp only [List.mem_cons, List.not_mem_nil, or_false] at hp
    rcases hp with rfl | rfl | rfl
    · exact ptB_iff.2 (cv_at h i)
    · exact ptB_iff.2 (cv_at h j)
    · exact ptB_iff.2 (cv_at h k)⟩
  rw [implArea_eq]
  unfold areaR
  rw [if_pos hc]
  have : area2 [PC l i, PC l j, PC l k] = crI (PC l i) (PC l j) + crI (PC l j) (PC l k) + crI (PC l k) (PC l i) := by
    generalize PC l i = a; generalize PC l j = b; generalize PC l k = c
    simp [area2, sm, PC, at_]
  rw [this]
theorem rd_at {l : List Pt} {j : Nat} (h : j < l.length) : rd_T32 l (j : Int) = PC l j := by rw [at_rd, PC_at h]
theorem fan_l0 {l : List Pt} (h : cvB l = true) (n : Nat) : ∀ (i k : Nat), i + n + 1 = l.length → 1 ≤ i → n < k →
    laws_FnPolyArea.l0 k l (area2 l) true (-(area2 l)) true (area2 l) true (area2 l) true (fanS l i) (i : Int) = some true := by
  have hv := cvB_iff.1 h
  have hb := area2_bd h
  induction n with
  | zero =>
    intro i k hi h1 hk
    obtain ⟨k, rfl⟩ : ∃ m, k = m + 1 := ⟨k - 1, by omega⟩
    have hw : wrap64 ((i : Int) + 1) = ((i + 1 : Nat) : Int) := by rw [pw64 (by omega) (by omega)]; omega
    have hf : fanS l i = area2 l := by
      unfold fanS area2
      have e : PC l 0 = PC l (i + 1) := by rw [show i + 1 = 0 + l.length by omega, PC_per]
      rw [show l.length = i + 1 by omega, sm, Nat.zero_add, e]
    rw [laws_FnPolyArea.l0, hw, if_neg (by omega), if_pos rfl, if_pos rfl, if_pos rfl, if_pos rfl, pw64 (x := -(area2 l)) (by omega) (by omega), if_pos rfl, if_pos rfl, if_pos rfl, hf]
    simp
  | succ n ih =>
    intro i k hi h1 hk
    obtain ⟨k, rfl⟩ : ∃ m, k = m + 1 := ⟨k - 1, by omega⟩
    have hw : wrap64 ((i : Int) + 1) = ((i + 1 : Nat) : Int) := by rw [pw64 (by omega) (by omega)]; omega
    have fb : ∀ j, j ≤ 12 → -3000000000 ≤ fanS l j ∧ fanS l j ≤ 3000000000 := by
      intro j hj
      have b := sm_bd (lo := 0) (k := j) (f := fun i => crI (PC l i) (PC l (i + 1))) (B := 200000000) (fun i _ _ => crI_bd (cv_at h i) (cv_at h (i + 1)))
      have c := crI_bd (cv_at h j) (cv_at h 0)
      unfold fanS; omega
    have e0 : rd_T32 l 0 = PC l 0 := rd_at (l := l) (j := 0) (by omega)
    rw [laws_FnPolyArea.l0, hw, if_pos (by omega), if_pos (by omega), if_pos (by omega), if_pos (by omega), if_pos (by omega), e0, rd_at (show i < l.length by omega), rd_at (show i + 1 < l.length by omega)]
    have ta := tri_area h 0 i (i + 1)
    rw [show ([(⟨(PC l 0).f0, (PC l 0).f1⟩ : Pt), (⟨(PC l i).f0, (PC l i).f1⟩ : Pt), (⟨(PC l (i + 1)).f0, (PC l (i + 1)).f1⟩ : Pt)]) = [PC l 0, PC l i, PC l (i + 1)] from rfl, ta]
    simp only [Option.bind_some]
    have := fb (i + 1) (by omega)
    rw [if_pos trivial, ← fan_step, pw64 (by omega) (by omega)]
    exact ih (i + 1) k (by omega) (by omega) (by omega)
theorem FnPolyArea : laws_FnPolyArea.Pure := by
  intro bs ms _ _ hbs _ _ _
  obtain ⟨K, hK⟩ : ∃ K : Nat, K = 1000 := ⟨_, rfl⟩
  refine ⟨K + 2, ?_⟩
  have big : laws_FnPolyArea.j0 (K + 2) bs ms true = some true := by rw [laws_FnPolyArea.j0, if_pos rfl]
  have go : laws_FnPolyArea.j0 (K + 2) bs ms false = some true := by
    obtain ⟨l, e1, hl⟩ := DrawPolyArea_ok (K + 1) (by omega) hbs
    rw [laws_FnPolyArea.j0, if_neg (by decide), e1]
    simp only [Option.bind_some]
    rw [implArea_eq, specArea_eq _ (by omega) (by omega)]
    simp only [Option.bind_some, bne_self_eq_false, Bool.false_eq_true, if_false, if_true]
    rw [laws_FnPolyArea.j1]
    by_cases h : cvB l = true
    · have hv := cvB_iff.1 h
      have hk : ∃ k : Nat, k < l.length ∧ (ms.length : Int) % (l.length : Int) = (k : Int) := ⟨ms.length % l.length, Nat.mod_lt _ (by omega), by omega⟩
      obtain ⟨k, hk1, hk2⟩ := hk
      have ea : areaR l = (area2 l, true) := if_pos h
      rw [ea]
      dsimp only
      rw [if_neg (by decide), if_neg (by omega), impl_PolyBack_eq _ _ (by omega), if_pos h]
      simp only [Option.bind_some]
      have eb : areaR (backL l) = (-(area2 l), true) := by unfold areaR; rw [if_pos (by rw [cv_back]; exact h), area2_back]
      have ec : areaR (begL l k) = (area2 l, true) := by unfold areaR; rw [if_pos (by rw [cv_beg (by omega)]; exact h), area2_beg hk1]
      have et : areaR (l.map turnP) = (area2 l, true) := by unfold areaR; rw [if_pos (cv_turn h), area2_turn]
      rw [implArea_eq, eb, hk2, begunAt_eq (by omega) (by omega)]
      simp only [Option.bind_some]
      rw [implArea_eq, ec]
      simp only [Option.bind_some]
      rw [turned_eq h (by omega)]
      simp only [Option.bind_some]
      rw [implArea_eq, et]
      simp only [Option.bind_some]
      have f1 : fanS l 1 = 0 := by
        have := fan_step l 0
        have e : fanS l 0 = crI (PC l 0) (PC l 0) := by unfold fanS; simp [sm]
        have e2 : crI (PC l 0) (PC l 0) = 0 := by unfold crI; omega
        rw [Nat.zero_add, e, e2, crI_swap (PC l 0) (PC l 1)] at this
        omega
      have := fan_l0 h (l.length - 2) 1 K (by omega) (by omega) (by omega)
      rw [f1] at this
      exact this
    · have ea : areaR l = (0, false) := if_neg h
      rw [ea]
      simp
  unfold laws_FnPolyArea.f
  by_cases h1 : (bs.length : Int) > 1048576
  · rw [if_pos h1]; exact big
  · rw [if_neg h1]
    by_cases h2 : (ms.length : Int) > 1048576
    · rw [decide_eq_true h2]; exact big
    · rw [decide_eq_false h2]; exact go
end Go.Proofs.Ytgdhgncdpmalcaa.Pure
