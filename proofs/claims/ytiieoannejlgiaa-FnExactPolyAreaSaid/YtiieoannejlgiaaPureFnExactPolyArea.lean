/- The program's PolyArea and the reference's answer the same, for all arguments. -/
import Derived.Test.YtiieoannejlgiaaPolyPts
import Derived.Test.YtiieoannejlgiaaQ13
import Derived.Test.YtiieoannejlgiaaQ14
import Derived.Test.YtiieoannejlgiaaQ15
namespace Go.Proofs.Ytiieoannejlgiaa.Pure
open Go.RowKit Go.Proofs.Ytiieoannejlgiaa.Q Go.Proofs.Ytiieoannejlgiaa.Ring Go.Proofs.YtiieoannejlgiaaW.PrintWords Go.Proofs.YtiieoannejlgiaaW.PrintLast
theorem Area_l0 {l : List Pt} (hl : l.length ≤ 1048576) (n : Nat) : ∀ (j k : Nat), j + n = l.length → n < k → spec_l31Area.l0 k l (areaS l j) (j : Int) = some (areaS l l.length) := by
  induction n with
  | zero =>
    intro j k hj hk
    obtain ⟨k, rfl⟩ : ∃ m, k = m + 1 := ⟨k - 1, by omega⟩
    rw [spec_l31Area.l0, if_neg (by omega), show j = l.length by omega]
  | succ n ih =>
    intro j k hj hk
    obtain ⟨k, rfl⟩ : ∃ m, k = m + 1 := ⟨k - 1, by omega⟩
    have hw : wrap64 ((j : Int) + 1) = ((j + 1 : Nat) : Int) := by rw [pw64 (by omega) (by omega)]; omega
    have hmod : Int.tmod ((j + 1 : Nat) : Int) (l.length : Int) = (((j + 1) % l.length : Nat) : Int) := by
      rw [Int.tmod_eq_emod_of_nonneg (by omega)]; simp
    have hlt : (j + 1) % l.length < l.length := Nat.mod_lt _ (by omega)
    rw [spec_l31Area.l0, if_pos (by omega), if_pos (by omega), if_neg (by omega), hw, hmod, if_pos (by omega), if_pos (by omega)]
    simp only [at_rd, spec_l2Cross.f, Option.bind_some]
    have := ih (j + 1) k (by omega) (by omega)
    rw [areaS] at this
    unfold crossP nxt at this
    rw [Int.mul_comm (at_ l ((j + 1) % l.length)).f0] at this
    exact this
theorem PolyArea_eq (k : Nat) (l : List Pt) (hl : l.length ≤ 1048576) (hk : l.length < k) : spec_PolyArea.f k l = impl_PolyArea.f l := by
  unfold spec_PolyArea.f impl_PolyArea.f
  rw [l31Points_eq _ _ hl hk]
  simp only [Option.bind_some]
  by_cases h : cvB l = true
  · rw [if_pos h, if_pos h, spec_l31Area.f]
    have := Area_l0 hl l.length 0 k (by omega) hk
    rw [areaS] at this
    rw [show spec_l31Area.l0 k l 0 0 = some (areaS l l.length) from this]; rfl
  · rw [if_neg h, if_neg h]
theorem FnExactPolyArea : laws_FnExactPolyArea.Pure := by
  intro l hm _
  refine ⟨2000010, ?_⟩
  unfold laws_FnExactPolyArea.f
  rw [szPointS_eq l hm]
  simp only [Option.bind_some]
  by_cases h1 : l.length ≤ 1048576
  · rw [if_pos h1, if_neg (by omega), toPointS_eq _ l (by omega) h1]
    simp only [Option.bind_some]
    rw [PolyArea_eq 2000010 (l.map toPt) (by simpa using h1) (by simp; omega)]
    obtain ⟨w, e⟩ : ∃ w, impl_PolyArea.f (l.map toPt) = some w := by unfold impl_PolyArea.f; split <;> exact ⟨_, rfl⟩
    rw [e]
    simp only [Option.bind_some, if_true, bne_self_eq_false]
    simp only [laws_FnExactPolyArea.j0]
    rw [if_neg (by simp), toPointS_eq _ l (by omega) h1]
    simp only [Option.bind_some]
    rw [eqPointS_self _ _ (by simp; omega) (by simp; omega)]
    rfl
  · rw [if_neg h1, if_pos (by omega)]
end Go.Proofs.Ytiieoannejlgiaa.Pure
