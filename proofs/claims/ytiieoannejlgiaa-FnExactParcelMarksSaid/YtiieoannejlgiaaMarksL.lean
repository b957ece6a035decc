/- The corners of a parcel at which it turns: the reference's and the program's are the same. -/
import Derived.Test.YtiieoannejlgiaaRingOf
import Derived.Test.YtiieoannejlgiaaSpecForms
import Derived.Test.YtiieoannejlgiaaParcelL
import Derived.Test.YtiieoannejlgiaaQ26
import Derived.Test.YtiieoannejlgiaaQ27
import Derived.Test.YtiieoannejlgiaaQ38
import Derived.Test.YtiieoannejlgiaaQ39
namespace Go.Proofs.Ytiieoannejlgiaa.Pure
open Go.RowKit Go.Proofs.Ytiieoannejlgiaa.Q Go.Proofs.Ytiieoannejlgiaa.Ring Go.Proofs.YtiieoannejlgiaaW.PrintWords Go.Proofs.YtiieoannejlgiaaW.PrintLast
theorem pwM {x : Int} (h0 : 0 ≤ x) (h1 : x ≤ 4611686018427387904) : wrap64 x = x := by unfold wrap64; omega
def before (l : List Pt) (j : Nat) : Pt := at_ l ((j + l.length - 1) % l.length)
def marksL (l : List Pt) : Nat → List Pt
  | 0 => []
  | j + 1 => if sgnP (before l j) (at_ l j) (nxt l j) = 0 then marksL l j else marksL l j ++ [at_ l j]
theorem marks_len (l : List Pt) (j : Nat) : (marksL l j).length ≤ j := by
  induction j with
  | zero => exact Nat.le_refl _
  | succ j ih =>
    rw [marksL]
    split
    · omega
    · rw [List.length_append]; simp; omega
theorem idx_prev {j n : Nat} (hj : j < n) (hn : n ≤ 1048576) : Int.tmod (wrap64 (wrap64 ((j : Int) + (n : Int)) - 1)) (n : Int) = (((j + n - 1) % n : Nat) : Int) := by
  rw [pwM (x := (j : Int) + n) (by omega) (by omega), pwM (by omega) (by omega), show (j : Int) + n - 1 = ((j + n - 1 : Nat) : Int) by omega, Int.tmod_eq_emod_of_nonneg (by omega)]
  simp
theorem idx_next {j n : Nat} (hj : j < n) (hn : n ≤ 1048576) : Int.tmod (wrap64 ((j : Int) + 1)) (n : Int) = (((j + 1) % n : Nat) : Int) := by
  rw [pwM (by omega) (by omega), show (j : Int) + 1 = ((j + 1 : Nat) : Int) by omega, Int.tmod_eq_emod_of_nonneg (by omega)]
  simp
theorem sideP {k : Nat} (p q r : Pt) : impl_PointSide.f (k + 1) p.f0 p.f1 q.f0 q.f1 r.f0 r.f1 = some (sideR p.f0 p.f1 q.f0 q.f1 r.f0 r.f1) := impl_PointSide_eq k _ _ _ _ _ _
theorem Marks_spec {l : List Pt} (hl : l.length ≤ 1048576) (pv : ∀ j, j < l.length → PVP (at_ l j)) (n : Nat) :
    ∀ (j k : Nat), j + n = l.length → n < k → spec_ParcelMarks.l0 k l (marksL l j) (l.length : Int) (j : Int) = some (marksL l l.length, true) := by
  induction n with
  | zero =>
    intro j k hj hk
    obtain ⟨k, rfl⟩ : ∃ m, k = m + 1 := ⟨k - 1, by omega⟩
    rw [spec_ParcelMarks.l0, if_neg (by omega), show j = l.length by omega]
  | succ n ih =>
    intro j k hj hk
    obtain ⟨k, rfl⟩ : ∃ m, k = m + 1 := ⟨k - 1, by omega⟩
    have hjl : j < l.length := by omega
    have h1 : (j + l.length - 1) % l.length < l.length := Nat.mod_lt _ (by omega)
    have h2 : (j + 1) % l.length < l.length := Nat.mod_lt _ (by omega)
    rw [spec_ParcelMarks.l0, if_pos (by omega), if_neg (by omega), idx_prev hjl hl, idx_next hjl hl, if_pos (by omega), if_pos (by omega), if_pos (by omega), if_pos (by omega), if_pos (by omega), if_pos (by omega)]
    simp only [at_rd]
    rw [side_f (pv _ h1) (pv j hjl) (pv _ h2), show wrap64 ((j : Int) + 1) = ((j + 1 : Nat) : Int) by rw [pwM (by omega) (by omega)]; omega]
    simp only [Option.bind_some]
    have go := ih (j + 1) k (by omega) (by omega)
    rw [marksL] at go
    unfold before nxt at go
    by_cases h : sgnP (at_ l ((j + l.length - 1) % l.length)) (at_ l j) (at_ l ((j + 1) % l.length)) = 0
    · rw [if_pos h] at go ⊢; exact go
    · have := marks_len l j
      rw [if_neg h] at go ⊢; rw [if_pos (by omega)]; exact go
theorem Marks_impl {l : List Pt} (hl : l.length ≤ 1048576) (n : Nat) :
    ∀ (j k : Nat), j + n = l.length → n + 1 < k → impl_ParcelMarks.l0 k l (marksL l j) l (l.length : Int) (j : Int) = some (marksL l l.length, true) := by
  induction n with
  | zero =>
    intro j k hj hk
    obtain ⟨k, rfl⟩ : ∃ m, k = m + 1 := ⟨k - 1, by omega⟩
    rw [impl_ParcelMarks.l0, if_neg (by omega), show j = l.length by omega]
  | succ n ih =>
    intro j k hj hk
    obtain ⟨k, rfl⟩ : ∃ m, k = m + 1 + 1 := ⟨k - 2, by omega⟩
    have hjl : j < l.length := by omega
    have h1 : (j + l.length - 1) % l.length < l.length := Nat.mod_lt _ (by omega)
    have h2 : (j + 1) % l.length < l.length := Nat.mod_lt _ (by omega)
    rw [impl_ParcelMarks.l0, if_pos (by omega), if_pos (by omega), if_pos (by omega), if_neg (by omega), idx_prev hjl hl, idx_next hjl hl, if_pos (by omega), if_pos (by omega), if_pos (by omega), if_pos (by omega)]
    simp only [at_rd]
    rw [sideP, show wrap64 ((j : Int) + 1) = ((j + 1 : Nat) : Int) by rw [pwM (by omega) (by omega)]; omega]
    simp only [Option.bind_some]
    have go := ih (j + 1) (k + 1) (by omega) (by omega)
    rw [marksL] at go
    unfold before nxt sgnP at go
    by_cases h : (sideR (at_ l ((j + l.length - 1) % l.length)).f0 (at_ l ((j + l.length - 1) % l.length)).f1 (at_ l j).f0 (at_ l j).f1 (at_ l ((j + 1) % l.length)).f0 (at_ l ((j + 1) % l.length)).f1).1 = 0
    · rw [if_pos h] at go ⊢; exact go
    · have := marks_len l j
      rw [if_neg h] at go ⊢; rw [if_pos (by omega)]; exact go
def marksR (l : List Pt) : List Pt × Bool := if okP l = true then (marksL l l.length, true) else ([], false)
theorem specMarks_eq {l : List Pt} (h : l.length ≤ 1048576) (k : Nat) (hk : l.length + 2 < k) : spec_ParcelMarks.f k l = some (marksR l) := by
  unfold spec_ParcelMarks.f marksR
  simp only [Option.bind_some]
  rw [specPValid_eq h k (by omega)]
  simp only [Option.bind_some]
  by_cases c : okP l = true
  · rw [if_pos c, if_pos c]; exact Marks_spec h (fun j hj => pv_at (okP_cv c) hj) l.length 0 k (by omega) (by omega)
  · rw [if_neg c, if_neg c]
theorem implMarks_eq {l : List Pt} (h : l.length ≤ 1048576) (k : Nat) (hk : l.length + 2 < k) : impl_ParcelMarks.f k l = some (marksR l) := by
  unfold impl_ParcelMarks.f marksR
  rw [implPValid_eq]
  simp only [Option.bind_some]
  by_cases c : okP l = true
  · rw [if_pos c, if_pos c]; exact Marks_impl h l.length 0 k (by omega) (by omega)
  · rw [if_neg c, if_neg c]
theorem marksR_len (l : List Pt) : (marksR l).1.length ≤ 12 := by
  unfold marksR
  by_cases c : okP l = true
  · rw [if_pos c]
    have := marks_len l l.length
    have := (cvB_iff.1 (okP_cv c)).1.2
    dsimp only; omega
  · rw [if_neg c]; simp
end Go.Proofs.Ytiieoannejlgiaa.Pure
