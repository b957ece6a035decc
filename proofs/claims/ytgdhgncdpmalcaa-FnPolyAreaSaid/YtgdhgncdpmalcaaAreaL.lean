/- The reference's area is the program's. -/
import Derived.Test.YtgdhgncdpmalcaaRingArea
import Derived.Test.YtgdhgncdpmalcaaQ16
namespace Go.Proofs.Ytgdhgncdpmalcaa.Pure
open Go.RowKit Go.Proofs.Ytgdhgncdpmalcaa.Q Go.Proofs.Ytgdhgncdpmalcaa.Ring Go.Proofs.YtgdhgncdpmalcaaW.PrintWords Go.Proofs.YtgdhgncdpmalcaaW.PrintLast
theorem pwA {x : Int} (h0 : 0 ≤ x) (h1 : x ≤ 4611686018427387904) : wrap64 x = x := by unfold wrap64; omega
theorem Area_l0 {l : List Pt} (hl : l.length ≤ 1048576) (n : Nat) : ∀ (j k : Nat), j + n = l.length → n < k → spec_l31Area.l0 k l (areaS l j) (j : Int) = some (areaS l l.length) := by
  induction n with
  | zero =>
    intro j k hj hk
    obtain ⟨k, rfl⟩ : ∃ m, k = m + 1 := ⟨k - 1, by omega⟩
    rw [spec_l31Area.l0, if_neg (by omega), show j = l.length by omega]
  | succ n ih =>
    intro j k hj hk
    obtain ⟨k, rfl⟩ : ∃ m, k = m + 1 := ⟨k - 1, by omega⟩
    have hw : wrap64 ((j : Int) + 1) = ((j + 1 : Nat) : Int) := by rw [pwA (by omega) (by omega)]; omega
    have hmod : Int.tmod ((j + 1 : Nat) : Int) (l.length : Int) = (((j + 1) % l.length : Nat) : Int) := by
      rw [Int.tmod_eq_emod_of_nonneg (by omega)]; simp
    have hlt : (j + 1) % l.length < l.length := Nat.mod_lt _ (by omega)
    rw [spec_l31Area.l0, if_pos (by omega), if_pos (by omega), if_neg (by omega), hw, hmod, if_pos (by omega), if_pos (by omega)]
    simp only [at_rd, spec_l2Cross.f, Option.bind_some]
    have := ih (j + 1) k (by omega) (by omega)
    rw [areaS] at this
    unfold crossP nxt at this
    rw [Int.mul_comm (at_ l ((j + 1) % l.length)).f0] at this
    exact this
end Go.Proofs.Ytgdhgncdpmalcaa.Pure
