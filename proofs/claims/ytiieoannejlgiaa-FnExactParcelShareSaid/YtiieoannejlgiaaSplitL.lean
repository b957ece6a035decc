/- A parcel cut in two: the reference's answer and the program's are the same. -/
import Derived.Test.YtiieoannejlgiaaParcelL
import Derived.Test.YtiieoannejlgiaaQ2
import Derived.Test.YtiieoannejlgiaaQ26
import Derived.Test.YtiieoannejlgiaaQ27
import Derived.Test.YtiieoannejlgiaaQ35
import Derived.Test.YtiieoannejlgiaaQ36
namespace Go.Proofs.Ytiieoannejlgiaa.Pure
open Go.RowKit Go.Proofs.Ytiieoannejlgiaa.Q Go.Proofs.Ytiieoannejlgiaa.Ring Go.Proofs.YtiieoannejlgiaaW.PrintWords Go.Proofs.YtiieoannejlgiaaW.PrintLast
theorem pwS {x : Int} (h0 : -9000000000000000000 ≤ x) (h1 : x ≤ 9000000000000000000) : wrap64 x = x := by unfold wrap64; omega
theorem l6In_S (a b c : Int) : spec_l6In.f a b c = some (decide (b ≤ a ∧ a ≤ c)) := by
 unfold spec_l6In.f
 by_cases h : a ≥ b
 ·rw [if_pos h]; congr 1; rw [decide_eq_decide]; omega
 ·rw [if_neg h]; congr 1; symm; rw [decide_eq_false_iff_not]; omega
def leftL (l : List Pt) (a b : Nat) : List Pt := (l.take (b + 1)).drop a
def rightL (l : List Pt) (a b : Nat) : List Pt := l.drop b ++ l.take (a + 1)
def splitN (l : List Pt) (a b : Nat) : List Pt × List Pt × Bool := if okP (leftL l a b) && okP (rightL l a b) then (leftL l a b, rightL l a b, true) else ([], [], false)
def splitR (l : List Pt) (a b : Int) : List Pt × List Pt × Bool := if okP l = true ∧ 0 ≤ a ∧ a < b ∧ b < (l.length : Int) then splitN l a.toNat b.toNat else ([], [], false)
theorem left_len (l : List Pt) (a b : Nat) : (leftL l a b).length ≤ l.length := by unfold leftL; rw [List.length_drop, List.length_take]; omega
theorem right_len (l : List Pt) (a b : Nat) : (rightL l a b).length ≤ 2 * l.length := by unfold rightL; rw [List.length_append, List.length_drop, List.length_take]; omega
theorem splitN_len {l : List Pt} (h : l.length ≤ 12) (a b : Nat) : (splitN l a b).1.length ≤ 24 ∧ (splitN l a b).2.1.length ≤ 24 := by
 have := left_len l a b; have := right_len l a b
 unfold splitN
 split
 ·exact ⟨by dsimp only; omega, by dsimp only; omega⟩
 ·exact ⟨by simp, by simp⟩
theorem splitR_len (l : List Pt) (a b : Int) : (splitR l a b).1.length ≤ 24 ∧ (splitR l a b).2.1.length ≤ 24 := by
 unfold splitR
 by_cases c : okP l = true ∧ 0 ≤ a ∧ a < b ∧ b < (l.length : Int)
 ·rw [if_pos c]; exact splitN_len (cvB_iff.1 (okP_cv c.1)).1.2 _ _
 ·rw [if_neg c]; exact ⟨by simp, by simp⟩
theorem spec_j0 {l : List Pt} (hl : l.length ≤ 12) {a b : Nat} (h1 : a < b) (h2 : b < l.length) (k : Nat) (hk : 100 < k) : spec_ParcelSplit.j0 (k + 1) l (a : Int) (b : Int) false = some (splitN l a b) := by
 have e1 : wrap64 ((b : Int) + 1) = ((b + 1 : Nat) : Int) := by rw [pwS (by omega) (by omega)]; omega
 have e2 : wrap64 ((a : Int) + 1) = ((a + 1 : Nat) : Int) := by rw [pwS (by omega) (by omega)]; omega
 have n1 := left_len l a b; have n2 := right_len l a b
 have n3 : (l.drop b).length ≤ 12 := by rw [List.length_drop]; omega
 have n4 : (l.take (a + 1)).length ≤ 12 := by rw [List.length_take]; omega
 simp only [spec_ParcelSplit.j0, Option.bind_some, e1, e2, Int.toNat_natCast, List.nil_append]
 rw [if_neg (by decide), if_pos (by omega), if_pos (by omega), if_pos (by omega)]
 change (if ([] : List Pt).length + (leftL l a b).length < _ then _ else _) = _
 rw [if_pos (by simp; omega), if_pos (by omega), if_pos (by omega), if_pos (by simp; omega), if_pos (by omega), if_pos (by omega), if_pos (by omega)]
 change (spec_ParcelValid.f k (leftL l a b)).bind (fun t => if t = true then (spec_ParcelValid.f k (rightL l a b)).bind (fun u => if u = true then some (leftL l a b, rightL l a b, true) else some ([], [], false)) else some ([], [], false)) = _
 rw [specPValid_eq (by omega) k (by omega), specPValid_eq (by omega) k (by omega)]
 simp only [Option.bind_some]
 unfold splitN
 cases okP (leftL l a b)
 ·rfl
 ·cases okP (rightL l a b) <;> rfl
theorem impl_j0 {l : List Pt} (hl : l.length ≤ 12) {a b : Nat} (h1 : a < b) (h2 : b < l.length) (k : Nat) : impl_ParcelSplit.j0 (k + 1) l (a : Int) (b : Int) false = some (splitN l a b) := by
 have e1 : wrap64 ((b : Int) + 1) = ((b + 1 : Nat) : Int) := by rw [pwS (by omega) (by omega)]; omega
 have e2 : wrap64 ((a : Int) + 1) = ((a + 1 : Nat) : Int) := by rw [pwS (by omega) (by omega)]; omega
 have n1 := left_len l a b; have n2 := right_len l a b
 have n3 : (l.drop b).length ≤ 12 := by rw [List.length_drop]; omega
 have n4 : (l.take (a + 1)).length ≤ 12 := by rw [List.length_take]; omega
 simp only [impl_ParcelSplit.j0, Option.bind_some, e1, e2, Int.toNat_natCast, List.nil_append]
 rw [if_neg (by decide), if_pos (by omega), if_pos (by omega), if_pos (by omega)]
 change (if ([] : List Pt).length + (leftL l a b).length < _ then _ else _) = _
 rw [if_pos (by simp; omega), if_pos (by omega), if_pos (by omega), if_pos (by simp; omega), if_pos (by omega), if_pos (by omega), if_pos (by omega)]
 change (impl_ParcelValid.f (leftL l a b)).bind (fun t => if t = true then (impl_ParcelValid.f (rightL l a b)).bind (fun u => if u = true then some (leftL l a b, rightL l a b, true) else some ([], [], false)) else some ([], [], false)) = _
 rw [implPValid_eq, implPValid_eq]
 simp only [Option.bind_some]
 unfold splitN
 cases okP (leftL l a b)
 ·rfl
 ·cases okP (rightL l a b) <;> rfl
theorem spec_j0_no (k : Nat) (l : List Pt) (a b : Int) : spec_ParcelSplit.j0 (k + 1) l a b true = some ([], [], false) := by
 simp only [spec_ParcelSplit.j0]; rw [if_pos trivial]
theorem impl_j0_no (k : Nat) (l : List Pt) (a b : Int) : impl_ParcelSplit.j0 (k + 1) l a b true = some ([], [], false) := by
 simp only [impl_ParcelSplit.j0]; rw [if_pos trivial]
theorem specSplit_eq {l : List Pt} (h : l.length ≤ 1048576) {a b : Int} (ha : -9223372036854775808 ≤ a ∧ a ≤ 9223372036854775807) (hb : -9223372036854775808 ≤ b ∧ b ≤ 9223372036854775807) (k : Nat) (hk : l.length + 102 < k) : spec_ParcelSplit.f k l a b = some (splitR l a b) := by
 obtain ⟨k, rfl⟩ : ∃ m, k = m + 1 := ⟨k - 1, by omega⟩
 unfold spec_ParcelSplit.f
 rw [specPValid_eq h _ (by omega)]
 simp only [Option.bind_some, l6In_S]
 unfold splitR
 by_cases c : okP l = true
 ·have hn := (cvB_iff.1 (okP_cv c)).1
  rw [if_pos c, pwS (x := (l.length : Int) - 1) (by omega) (by omega)]
  by_cases c1 : 0 ≤ b ∧ b ≤ (l.length : Int) - 1
  ·rw [if_pos (by simpa using c1), pwS (x := b - 1) (by omega) (by omega)]
   by_cases c2 : 0 ≤ a ∧ a ≤ b - 1
   ·rw [decide_eq_true c2, if_pos ⟨c, by omega, by omega, by omega⟩]
    have := spec_j0 hn.2 (a := a.toNat) (b := b.toNat) (by omega) (by omega) k (by omega)
    rwa [Int.toNat_of_nonneg c2.1, Int.toNat_of_nonneg c1.1] at this
   ·rw [decide_eq_false c2, if_neg (by omega)]; exact spec_j0_no _ _ _ _
  ·rw [if_neg (by simpa using c1), if_neg (by omega)]; exact spec_j0_no _ _ _ _
 ·rw [if_neg c, if_neg (fun e => c e.1)]; exact spec_j0_no _ _ _ _
theorem implSplit_eq {l : List Pt} {a b : Int} (k : Nat) (hk : 0 < k) : impl_ParcelSplit.f k l a b = some (splitR l a b) := by
 obtain ⟨k, rfl⟩ : ∃ m, k = m + 1 := ⟨k - 1, by omega⟩
 unfold impl_ParcelSplit.f
 rw [implPValid_eq]
 simp only [Option.bind_some]
 unfold splitR
 by_cases c : okP l = true
 ·have hn := (cvB_iff.1 (okP_cv c)).1
  rw [if_pos c]
  by_cases c1 : a < 0
  ·rw [if_pos c1, if_neg (by omega)]; exact impl_j0_no _ _ _ _
  ·rw [if_neg c1]
   by_cases c2 : a ≥ b
   ·rw [if_pos c2, if_neg (by omega)]; exact impl_j0_no _ _ _ _
   ·rw [if_neg c2]
    by_cases c3 : b ≥ (l.length : Int)
    ·rw [decide_eq_true c3, if_neg (by omega)]; exact impl_j0_no _ _ _ _
    ·rw [decide_eq_false c3, if_pos ⟨c, by omega, by omega, by omega⟩]
     have := impl_j0 hn.2 (a := a.toNat) (b := b.toNat) (by omega) (by omega) k
     rwa [Int.toNat_of_nonneg (by omega), Int.toNat_of_nonneg (by omega)] at this
 ·rw [if_neg c, if_neg (fun e => c e.1)]; exact impl_j0_no _ _ _ _
end Go.Proofs.Ytiieoannejlgiaa.Pure
