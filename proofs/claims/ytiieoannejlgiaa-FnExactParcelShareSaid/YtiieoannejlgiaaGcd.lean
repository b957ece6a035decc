/- The greatest common divisor, as the printed functions tell it. -/
import Derived.Test.YtiieoannejlgiaaPVal
import Derived.Test.YtiieoannejlgiaaQ5
namespace Go.Proofs.Ytiieoannejlgiaa.Pure
open Go.RowKit Go.Proofs.Ytiieoannejlgiaa.Q Go.Proofs.YtiieoannejlgiaaW.PrintWords Go.Proofs.YtiieoannejlgiaaW.PrintLast Go.Proofs.YtiieoannejlgiaaW.PrintMore

/-! The greatest common divisor. -/
theorem gcd_step (a b : Int) (ha : 0 ≤ a) (hb : 0 ≤ b) : Int.gcd b (a % b) = Int.gcd a b := by
 obtain ⟨m, rfl⟩ : ∃ m : Nat, a = m := ⟨a.toNat, by omega⟩
 obtain ⟨n, rfl⟩ : ∃ n : Nat, b = n := ⟨b.toNat, by omega⟩
 have e : ((m : Int) % (n : Int)) = ((m % n : Nat) : Int) := by simp
 rw [e, Int.gcd_natCast_natCast, Int.gcd_natCast_natCast, Nat.gcd_comm n, ← Nat.gcd_rec, Nat.gcd_comm]
theorem spec_l1Common_eq (k : Nat) : ∀ (a b : Int), 0 ≤ a → 0 ≤ b → b.toNat < k → spec_l1Common.l0 k a b = some (Int.gcd a b : Int) := by
 induction k with
 | zero => intro a b _ _ h; omega
 | succ k ih =>
  intro a b ha hb hk
  simp only [spec_l1Common.l0]
  by_cases h : b = 0
  ·rw [if_pos h, h, Int.gcd_zero_right]; congr 1; omega
  ·rw [if_neg h, Int.tmod_eq_emod_of_nonneg ha]
   have h1 := Int.emod_nonneg a h
   have h2 := Int.emod_lt_of_pos a (show 0 < b by omega)
   rw [ih b (a % b) hb h1 (by omega)]
   rw [gcd_step a b ha hb]
theorem impl_gcd_l0 (k : Nat) : ∀ (a b : Int), 0 ≤ a → 0 ≤ b → b.toNat < k → impl_gcdInt.l0 k a b = some (Int.gcd a b : Int) := by
 induction k with
 | zero => intro a b _ _ h; omega
 | succ k ih =>
  intro a b ha hb hk
  simp only [impl_gcdInt.l0]
  by_cases h : b = 0
  ·rw [if_pos h, h, Int.gcd_zero_right]; congr 1; omega
  ·rw [if_neg h, Int.tmod_eq_emod_of_nonneg ha]
   have h1 := Int.emod_nonneg a h
   have h2 := Int.emod_lt_of_pos a (show 0 < b by omega)
   rw [ih b (a % b) hb h1 (by omega)]
   rw [gcd_step a b ha hb]
theorem l1Size_eq {x : Int} (h0 : -9223372036854775807 ≤ x) (h1 : x ≤ 9223372036854775807) : spec_l1Size.f x = some (x.natAbs : Int) := by
 unfold spec_l1Size.f
 rw [w64 (by omega) (by omega), mx_eq]; congr 1; omega
theorem absInt_eq {x : Int} (h0 : -9223372036854775807 ≤ x) (h1 : x ≤ 9223372036854775807) : impl_absInt.f x = some (x.natAbs : Int) := by
 unfold impl_absInt.f
 by_cases h : x < 0
 ·rw [if_pos h, w64 (by omega) (by omega)]; congr 1; omega
 ·rw [if_neg h]; congr 1; omega

theorem gcd_natAbs (x y : Int) : Int.gcd (x.natAbs : Int) (y.natAbs : Int) = Int.gcd x y := by simp [Int.gcd]
end Go.Proofs.Ytiieoannejlgiaa.Pure
