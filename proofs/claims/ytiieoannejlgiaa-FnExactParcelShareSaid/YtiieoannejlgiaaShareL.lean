/- The share of a parcel that a cut gives: the reference's answer and the program's are the same. -/
import Derived.Test.YtiieoannejlgiaaSplitL
import Derived.Test.YtiieoannejlgiaaGcd
import Derived.Test.YtiieoannejlgiaaQ15
import Derived.Test.YtiieoannejlgiaaQ5
import Derived.Test.YtiieoannejlgiaaQ51
import Derived.Test.YtiieoannejlgiaaQ52
import Derived.Test.YtiieoannejlgiaaQ53
import Derived.Test.YtiieoannejlgiaaQ54
import Derived.Test.YtiieoannejlgiaaQ55
namespace Go.Proofs.Ytiieoannejlgiaa.Pure
open Go.RowKit Go.Proofs.Ytiieoannejlgiaa.Q Go.Proofs.Ytiieoannejlgiaa.Ring Go.Proofs.YtiieoannejlgiaaW.PrintWords Go.Proofs.YtiieoannejlgiaaW.PrintLast
theorem spec_gcd_k {k : Nat} {a b : Int} (ha : 0 ≤ a) (hb : 0 ≤ b) (hk : b.toNat < k) : spec_l1Common.f k a b = some (Int.gcd a b : Int) := by unfold spec_l1Common.f; exact spec_l1Common_eq k a b ha hb hk
theorem impl_gcd_k {k : Nat} {a b : Int} (ha : -9223372036854775807 ≤ a ∧ a ≤ 9223372036854775807) (hb : -9223372036854775807 ≤ b ∧ b ≤ 9223372036854775807) (hk : b.natAbs < k) : impl_gcdInt.f k a b = some (Int.gcd a b : Int) := by
 unfold impl_gcdInt.f
 rw [absInt_eq (by omega) (by omega), absInt_eq (by omega) (by omega)]
 simp only [Option.bind_some]
 rw [impl_gcd_l0 k _ _ (by omega) (by omega) (by omega), gcd_natAbs]
def QV (p q : Int) : Bool := decide (1 ≤ q ∧ q ≤ 1000000000) && (decide (-1000000000 ≤ p ∧ p ≤ 1000000000) && ((Int.gcd p q : Int) == 1))
theorem specQV {k : Nat} (hk : 1000000002 < k) (p q : Int) : spec_QuoValid.f k p q = some (QV p q) := by
 obtain ⟨k, rfl⟩ : ∃ m, k = m + 1 := ⟨k - 1, by omega⟩
 unfold spec_QuoValid.f QV
 simp only [l6In_S, Option.bind_some]
 by_cases h1 : 1 ≤ q ∧ q ≤ 1000000000
 ·rw [decide_eq_true h1, if_pos rfl, Bool.true_and]
  by_cases h2 : -1000000000 ≤ p ∧ p ≤ 1000000000
  ·rw [decide_eq_true h2, Bool.true_and]
   simp only [spec_QuoValid.j0]
   rw [if_neg (by decide), l1Size_eq (by omega) (by omega)]
   simp only [Option.bind_some]
   rw [spec_gcd_k (by omega) (by omega) (by omega)]
   simp only [Option.bind_some]
   rw [show Int.gcd (p.natAbs : Int) q = Int.gcd p q by simp [Int.gcd]]
  ·rw [decide_eq_false h2, Bool.false_and]
   simp only [spec_QuoValid.j0]
   rw [if_pos (by decide)]
 ·rw [decide_eq_false h1, if_neg (by decide), Bool.false_and]
  simp only [spec_QuoValid.j0]
  rw [if_pos trivial]
theorem implQV {k : Nat} (hk : 1000000002 < k) (p q : Int) : impl_QuoValid.f k p q = some (QV p q) := by
 unfold impl_QuoValid.f QV
 by_cases h0 : q < 1
 ·rw [if_pos h0, decide_eq_false (by omega), Bool.false_and]
 ·rw [if_neg h0]
  by_cases h1 : q > 1000000000
  ·rw [if_pos h1, decide_eq_false (by omega), Bool.false_and]
  ·rw [if_neg h1, decide_eq_true (show 1 ≤ q ∧ q ≤ 1000000000 by omega), Bool.true_and, impl_within_eq _ _ (by omega) (by omega)]
   simp only [Option.bind_some]
   by_cases h2 : -1000000000 ≤ p ∧ p ≤ 1000000000
   ·rw [decide_eq_true h2, if_pos rfl, Bool.true_and, impl_gcd_k (by omega) (by omega) (by omega)]
    rfl
   ·rw [decide_eq_false h2, if_neg (by decide), Bool.false_and]
def quoR (n d : Int) : Int × Int × Bool :=
 if QV (wrap64 (Int.tdiv n (Int.gcd n d : Int))) (wrap64 (Int.tdiv d (Int.gcd n d : Int))) = true then (wrap64 (Int.tdiv n (Int.gcd n d : Int)), wrap64 (Int.tdiv d (Int.gcd n d : Int)), true) else (0, 0, false)
theorem gcd_pos {n d : Int} (hd : 0 < d) : ¬ ((Int.gcd n d : Nat) : Int) = 0 := by
 have := Int.gcd_pos_of_ne_zero_right n (show d ≠ 0 by omega)
 omega
theorem specQuo {k : Nat} {n d : Int} (hn : 0 ≤ n ∧ n ≤ 10000000000) (hd : 0 < d ∧ d ≤ 10000000000) (hk : 20000000000 < k) : spec_QuoOf.f k n d = some (quoR n d) := by
 obtain ⟨k, rfl⟩ : ∃ m, k = m + 1 + 1 := ⟨k - 2, by omega⟩
 unfold spec_QuoOf.f quoR
 simp only [l6In_S, Option.bind_some]
 rw [decide_eq_true (by omega), if_pos rfl, decide_eq_true (by omega), if_pos rfl, show (d == 0) = false from beq_eq_false_iff_ne.2 (by omega)]
 simp only [spec_QuoOf.j0]
 rw [if_neg (by decide), if_neg (by omega)]
 simp only [spec_QuoOf.j1]
 rw [l1Size_eq (by omega) (by omega)]
 simp only [Option.bind_some]
 rw [show (n.natAbs : Int) = n by omega, spec_gcd_k (by omega) (by omega) (by omega)]
 simp only [Option.bind_some]
 rw [if_neg (gcd_pos hd.1), specQV (by omega)]
 simp only [Option.bind_some]
 split <;> rfl
theorem implQuo {k : Nat} {n d : Int} (hn : 0 ≤ n ∧ n ≤ 10000000000) (hd : 0 < d ∧ d ≤ 10000000000) (hk : 20000000000 < k) : impl_QuoOf.f k n d = some (quoR n d) := by
 obtain ⟨k, rfl⟩ : ∃ m, k = m + 1 + 1 := ⟨k - 2, by omega⟩
 unfold impl_QuoOf.f quoR
 rw [if_neg (by omega), impl_within_eq _ _ (by omega) (by omega), impl_within_eq _ _ (by omega) (by omega)]
 simp only [Option.bind_some]
 rw [decide_eq_true (by omega), if_pos rfl, decide_eq_true (by omega)]
 simp only [impl_QuoOf.j0]
 rw [if_neg (by decide), if_neg (by omega)]
 simp only [impl_QuoOf.j1]
 rw [impl_gcd_k (by omega) (by omega) (by omega)]
 simp only [Option.bind_some]
 rw [if_neg (gcd_pos hd.1), implQV (by omega)]
 simp only [Option.bind_some]
 split <;> rfl
theorem area_bd {l : List Pt} (h : cvB l = true) (j : Nat) (hj : j ≤ l.length) : -(200000000 * (j : Int)) ≤ areaS l j ∧ areaS l j ≤ 200000000 * j := by
 have hv := (cvB_iff.1 h).1
 have pv : ∀ i, i < l.length → (-10000 ≤ (at_ l i).f0 ∧ (at_ l i).f0 ≤ 10000) ∧ (-10000 ≤ (at_ l i).f1 ∧ (at_ l i).f1 ≤ 10000) := fun i hi =>
  ptB_iff.1 ((cvB_iff.1 h).2 (at_ l i) (by unfold at_; rw [List.getD_eq_getElem?_getD, List.getElem?_eq_getElem hi]; exact List.getElem_mem hi))
 induction j with
 | zero => simp [areaS]
 | succ j ih =>
  have := ih (by omega)
  obtain ⟨a1, a2⟩ := pv j (by omega)
  obtain ⟨b1, b2⟩ := pv ((j + 1) % l.length) (Nat.mod_lt _ (by omega))
  have m1 := mul_bd a1 b2 (by omega) (by omega)
  have m2 := mul_bd b1 a2 (by omega) (by omega)
  have hc : crossP (at_ l j) (nxt l j) = (at_ l j).f0 * (at_ l ((j + 1) % l.length)).f1 - (at_ l ((j + 1) % l.length)).f0 * (at_ l j).f1 := by
   unfold crossP nxt
   rw [w64 (x := (at_ l j).f0 * _) (by omega) (by omega), w64 (x := (at_ l ((j + 1) % l.length)).f0 * _) (by omega) (by omega), w64 (by omega) (by omega)]
  rw [areaS, hc, w64 (by omega) (by omega)]
  omega
theorem okP_area {l : List Pt} (c : okP l = true) : 0 < areaS l l.length ∧ areaS l l.length ≤ 10000000000 := by
 have h := okP_cv c
 have := area_bd h l.length (Nat.le_refl _)
 have hv := (cvB_iff.1 h).1
 unfold okP at c
 have := of_decide_eq_true ((Bool.and_eq_true _ _).mp c).2
 omega
theorem splitR_ok {l : List Pt} {a b : Int} (h : (splitR l a b).2.2 = true) : okP l = true ∧ okP (splitR l a b).1 = true := by
 unfold splitR at h ⊢
 by_cases c : okP l = true ∧ 0 ≤ a ∧ a < b ∧ b < (l.length : Int)
 ·rw [if_pos c] at h ⊢
  unfold splitN at h ⊢
  by_cases e : (okP (leftL l a.toNat b.toNat) && okP (rightL l a.toNat b.toNat)) = true
  ·rw [if_pos e]; exact ⟨c.1, ((Bool.and_eq_true _ _).mp e).1⟩
  ·rw [if_neg e] at h; exact absurd h (by simp)
 ·rw [if_neg c] at h; exact absurd h (by simp)
def shareR (l : List Pt) (a b : Int) : Int × Int × Bool := if (splitR l a b).2.2 = true then quoR (areaS (splitR l a b).1 (splitR l a b).1.length) (areaS l l.length) else (0, 0, false)
theorem specShare_eq {l : List Pt} (h : l.length ≤ 1048576) {a b : Int} (ha : -9223372036854775808 ≤ a ∧ a ≤ 9223372036854775807) (hb : -9223372036854775808 ≤ b ∧ b ≤ 9223372036854775807) (k : Nat) (hk : 30000000000 < k) : spec_ParcelShare.f k l a b = some (shareR l a b) := by
 unfold spec_ParcelShare.f shareR
 rw [specSplit_eq h ha hb k (by omega)]
 simp only [Option.bind_some]
 by_cases c : (splitR l a b).2.2 = true
 ·obtain ⟨c1, c2⟩ := splitR_ok c
  have hl := (splitR_len l a b).1
  have A1 := okP_area c1; have A2 := okP_area c2
  rw [if_pos c, if_pos c, spec_l31Area.f, spec_l31Area.f,
   show spec_l31Area.l0 k (splitR l a b).1 0 0 = some (areaS (splitR l a b).1 (splitR l a b).1.length) from Area_l0 (by omega) (splitR l a b).1.length 0 k (by omega) (by omega),
   show spec_l31Area.l0 k l 0 0 = some (areaS l l.length) from Area_l0 h l.length 0 k (by omega) (by omega)]
  simp only [Option.bind_some]
  rw [specQuo (by omega) (by omega) (by omega)]
  rfl
 ·rw [if_neg c, if_neg c]
theorem implArea_ok {l : List Pt} (h : cvB l = true) : impl_PolyArea.f l = some (areaS l l.length, true) := by unfold impl_PolyArea.f; rw [if_pos h]
theorem implShare_eq {l : List Pt} {a b : Int} (k : Nat) (hk : 30000000000 < k) : impl_ParcelShare.f k l a b = some (shareR l a b) := by
 unfold impl_ParcelShare.f shareR
 rw [implSplit_eq k (by omega)]
 simp only [Option.bind_some]
 by_cases c : (splitR l a b).2.2 = true
 ·obtain ⟨c1, c2⟩ := splitR_ok c
  have A1 := okP_area c1; have A2 := okP_area c2
  rw [if_pos c, if_pos c, implArea_ok (okP_cv c2), implArea_ok (okP_cv c1)]
  simp only [Option.bind_some]
  rw [implQuo (by omega) (by omega) (by omega)]
  rfl
 ·rw [if_neg c, if_neg c]
end Go.Proofs.Ytiieoannejlgiaa.Pure
