/- The reference counts the gaps of the sides as the program does. -/
import Derived.Test.YtiieoannejlgiaaRingEdge
import Derived.Test.YtiieoannejlgiaaRingOf
import Derived.Test.YtiieoannejlgiaaQ20
import Derived.Test.YtiieoannejlgiaaQ43
namespace Go.Proofs.Ytiieoannejlgiaa.Pure
open Go.RowKit Go.Proofs.Ytiieoannejlgiaa.Q Go.Proofs.Ytiieoannejlgiaa.Ring Go.Proofs.YtiieoannejlgiaaW.PrintWords Go.Proofs.YtiieoannejlgiaaW.PrintLast
theorem pwE {x : Int} (h0 : 0 ≤ x) (h1 : x ≤ 4611686018427387904) : wrap64 x = x := by unfold wrap64; omega
theorem Edge_l0 {l : List Pt} (hl : l.length ≤ 1048576) (n : Nat) : ∀ (j k : Nat), j + n = l.length → n + 20002 < k → spec_PolyEdge.l0 k l (edgeS l j) (j : Int) = some (edgeS l l.length) := by
  induction n with
  | zero =>
    intro j k hj hk
    obtain ⟨k, rfl⟩ : ∃ m, k = m + 1 := ⟨k - 1, by omega⟩
    rw [spec_PolyEdge.l0, if_neg (by omega), show j = l.length by omega]
  | succ n ih =>
    intro j k hj hk
    obtain ⟨k, rfl⟩ : ∃ m, k = m + 1 := ⟨k - 1, by omega⟩
    have hw : wrap64 ((j : Int) + 1) = ((j + 1 : Nat) : Int) := by rw [pwE (by omega) (by omega)]; omega
    have hmod : Int.tmod ((j + 1 : Nat) : Int) (l.length : Int) = (((j + 1) % l.length : Nat) : Int) := by
      rw [Int.tmod_eq_emod_of_nonneg (by omega)]; simp
    have hlt : (j + 1) % l.length < l.length := Nat.mod_lt _ (by omega)
    rw [spec_PolyEdge.l0, if_pos (by omega), if_pos (by omega), if_neg (by omega), hw, hmod, if_pos (by omega), if_pos (by omega)]
    simp only [at_rd]
    rw [spec_PointGaps_eq _ (by omega)]
    simp only [Option.bind_some]
    have := ih (j + 1) k (by omega) (by omega)
    rw [edgeS] at this
    exact this
theorem gaps_bd {p q : Pt} (hp : PV p.f0 p.f1 = true) (hq : PV q.f0 q.f1 = true) : 0 ≤ gapsP p q ∧ gapsP p q ≤ 20000 * 20001 := by
  unfold gapsP
  rw [gapsR_yes hp hq]
  have := PV_iff.1 hp; have := PV_iff.1 hq
  refine ⟨by omega, ?_⟩
  by_cases h : q.f0 - p.f0 = 0
  · rw [h, Int.gcd_zero_left]; omega
  · have h2 := Nat.le_of_dvd (Int.natAbs_pos.2 h) (Int.gcd_dvd_natAbs_left (a := q.f0 - p.f0) (b := q.f1 - p.f1))
    omega
theorem edge_bd {l : List Pt} (h : cvB l = true) (j : Nat) (hj : j ≤ l.length) : 0 ≤ edgeS l j ∧ edgeS l j ≤ 20000 * 20001 * j := by
  have hv := (cvB_iff.1 h).1
  have pv : ∀ i, i < l.length → PV (at_ l i).f0 (at_ l i).f1 = true := fun i hi => by
    have := ptB_iff.1 ((cvB_iff.1 h).2 (at_ l i) (by unfold at_; rw [List.getD_eq_getElem?_getD, List.getElem?_eq_getElem hi]; exact List.getElem_mem hi))
    exact PV_iff.2 ⟨this.1.1, this.1.2, this.2.1, this.2.2⟩
  induction j with
  | zero => simp [edgeS]
  | succ j ih =>
    have := ih (by omega)
    have hg := gaps_bd (pv j (by omega)) (pv ((j + 1) % l.length) (Nat.mod_lt _ (by omega)))
    rw [edgeS]
    change 0 ≤ gapsP (at_ l j) (nxt l j) ∧ gapsP (at_ l j) (nxt l j) ≤ _ at hg
    rw [pwE (by omega) (by omega)]
    omega
theorem specEdge_eq {l : List Pt} (h : l.length ≤ 1048576) (k : Nat) (hk : l.length + 20002 < k) : spec_PolyEdge.f k l = some (if okS l = true then edgeS l l.length else -1) := by
  unfold spec_PolyEdge.f
  rw [show spec_PolyValid.f l = some (okS l) from if_pos h]
  simp only [Option.bind_some]
  by_cases c : okS l = true
  · rw [if_pos c, if_pos c]; exact Edge_l0 h l.length 0 k (by omega) hk
  · rw [if_neg c, if_neg c]
end Go.Proofs.Ytiieoannejlgiaa.Pure
