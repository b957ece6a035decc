/- The reference's PolyConvex is the program's: no corner turns the other way round than the area tells. -/
import Derived.Test.YtiieoannejlgiaaRingPolyConvex
import Derived.Test.YtiieoannejlgiaaSpecForms
import Derived.Test.YtiieoannejlgiaaAreaL
import Derived.Test.YtiieoannejlgiaaQ13
import Derived.Test.YtiieoannejlgiaaQ20
import Derived.Test.YtiieoannejlgiaaQ29
import Derived.Test.YtiieoannejlgiaaQ30
namespace Go.Proofs.Ytiieoannejlgiaa.Pure
open Go.RowKit Go.Proofs.Ytiieoannejlgiaa.Q Go.Proofs.Ytiieoannejlgiaa.Ring Go.Proofs.YtiieoannejlgiaaW.PrintWords Go.Proofs.YtiieoannejlgiaaW.PrintLast
theorem pwC {x : Int} (h0 : 0 ≤ x) (h1 : x ≤ 4611686018427387904) : wrap64 x = x := by unfold wrap64; omega
theorem idx_1 {j n : Nat} (hj : j < n) (hn : n ≤ 1048576) : Int.tmod (wrap64 ((j : Int) + 1)) (n : Int) = (((j + 1) % n : Nat) : Int) := by
  rw [pwC (by omega) (by omega), show (j : Int) + 1 = ((j + 1 : Nat) : Int) by omega, Int.tmod_eq_emod_of_nonneg (by omega)]
  simp
theorem idx_2 {j n : Nat} (hj : j < n) (hn : n ≤ 1048576) : Int.tmod (wrap64 ((j : Int) + 2)) (n : Int) = ((((j + 1) % n + 1) % n : Nat) : Int) := by
  rw [pwC (by omega) (by omega), show (j : Int) + 2 = ((j + 2 : Nat) : Int) by omega, Int.tmod_eq_emod_of_nonneg (by omega), Nat.mod_add_mod, show j + 1 + 1 = j + 2 from rfl]
  simp
theorem Convex_l0 {l : List Pt} (hl : l.length ≤ 1048576) (pv : ∀ j, j < l.length → PVP (at_ l j)) (n : Nat) :
    ∀ (j k : Nat), j + n = l.length → n < k → (∀ i, i < j → bent l i = false) → spec_PolyConvex.l0 k l (sgI (areaS l l.length)) (l.length : Int) (j : Int) = some (convR l) := by
  induction n with
  | zero =>
    intro j k hj hk hp
    obtain ⟨k, rfl⟩ : ∃ m, k = m + 1 := ⟨k - 1, by omega⟩
    rw [spec_PolyConvex.l0, if_neg (by omega), convR_yes (fun i hi => hp i (by omega))]
  | succ n ih =>
    intro j k hj hk hp
    obtain ⟨k, rfl⟩ : ∃ m, k = m + 1 := ⟨k - 1, by omega⟩
    have hjl : j < l.length := by omega
    have h1 : (j + 1) % l.length < l.length := Nat.mod_lt _ (by omega)
    have h2 : ((j + 1) % l.length + 1) % l.length < l.length := Nat.mod_lt _ (by omega)
    rw [spec_PolyConvex.l0, if_pos (by omega), if_pos (by omega), if_pos (by omega), if_neg (by omega), idx_1 hjl hl, idx_2 hjl hl, if_pos (by omega), if_pos (by omega), if_pos (by omega), if_pos (by omega)]
    simp only [at_rd]
    rw [side_f (pv j hjl) (pv _ h1) (pv _ h2), show wrap64 ((j : Int) + 1) = ((j + 1 : Nat) : Int) by rw [pwC (by omega) (by omega)]; omega]
    simp only [Option.bind_some]
    by_cases h : sgnP (at_ l j) (at_ l ((j + 1) % l.length)) (at_ l (((j + 1) % l.length + 1) % l.length)) = wrap64 (-sgI (areaS l l.length))
    · rw [if_pos h, convR_no hjl]
      unfold bent turnS nxt
      exact beq_iff_eq.2 h
    · rw [if_neg h]
      refine ih (j + 1) k (by omega) (by omega) (fun i hi => ?_)
      by_cases e : i = j
      · subst e
        unfold bent turnS nxt
        exact beq_eq_false_iff_ne.2 h
      · exact hp i (by omega)
def convexR (l : List Pt) : Bool := okS l && convR l
theorem specConvex_eq {l : List Pt} (h : l.length ≤ 1048576) (k : Nat) (hk : l.length + 2 < k) : spec_PolyConvex.f k l = some (convexR l) := by
  unfold spec_PolyConvex.f convexR
  rw [show spec_PolyValid.f l = some (okS l) from if_pos h]
  simp only [Option.bind_some]
  cases c : okS l
  · rfl
  · have hcv : cvB l = true := by unfold okS at c; exact (Bool.and_eq_true_iff.1 c).1
    rw [if_pos rfl]
    unfold spec_l31Area.f
    rw [show spec_l31Area.l0 k l 0 0 = some (areaS l l.length) from Area_l0 h l.length 0 k (by omega) (by omega)]
    simp only [Option.bind_some, l1Sign_eq, Bool.true_and]
    exact Convex_l0 h (fun j hj => pv_at hcv hj) l.length 0 k (by omega) (by omega) (fun i hi => by omega)
theorem implConvex_eq (l : List Pt) : impl_PolyConvex.f l = some (convexR l) := by
  unfold impl_PolyConvex.f convexR
  cases okS l <;> rfl
end Go.Proofs.Ytiieoannejlgiaa.Pure
