/- The program's PolyBack and the reference's answer the same, for all arguments; its result shares no memory. -/
import Derived.Test.YtiieoannejlgiaaMarkPts
import Derived.Test.YtiieoannejlgiaaQ11
import Derived.Test.YtiieoannejlgiaaQ6
import Derived.Test.YtiieoannejlgiaaQ9
namespace Go.Proofs.Ytiieoannejlgiaa.Pure
open Go.RowKit Go.Proofs.Ytiieoannejlgiaa.Q Go.Proofs.YtiieoannejlgiaaW.PrintWords Go.Proofs.YtiieoannejlgiaaW.PrintLast
theorem Back_same (l : List Pt) (k : Nat) : ∀ (x : List Pt) (i : Int), impl_PolyBack.l0 k l x i = spec_PolyBack.l0 k l x i := by
  induction k with
  | zero => intro x i; simp only [impl_PolyBack.l0, spec_PolyBack.l0]
  | succ k ih => intro x i; simp only [impl_PolyBack.l0, spec_PolyBack.l0, ih]
theorem Back_ok {l : List Pt} (hl : l.length ≤ 12) (n : Nat) : ∀ (x : List Pt) (k : Nat), n < k → n < l.length → x.length ≤ 100 - n → ∃ r, spec_PolyBack.l0 k l x (n : Int) = some (r, true) ∧ r.length = x.length + n := by
  induction n with
  | zero =>
    intro x k hk _ _
    obtain ⟨k, rfl⟩ : ∃ m, k = m + 1 := ⟨k - 1, by omega⟩
    exact ⟨x, by rw [spec_PolyBack.l0, if_neg (by omega)], by omega⟩
  | succ n ih =>
    intro x k hk hn hx
    obtain ⟨k, rfl⟩ : ∃ m, k = m + 1 := ⟨k - 1, by omega⟩
    rw [spec_PolyBack.l0, if_pos (by omega), if_pos (by omega), if_pos (by omega), if_pos (by omega), pw64 (by omega) (by omega), show ((n + 1 : Nat) : Int) - 1 = n by omega]
    obtain ⟨r, e, hr⟩ := ih (x ++ [(⟨(rd_T37 l ((n + 1 : Nat) : Int)).f0, (rd_T37 l ((n + 1 : Nat) : Int)).f1⟩ : Pt)]) k (by omega) (by omega) (by simp; omega)
    exact ⟨r, e, by rw [hr]; simp; omega⟩
theorem PolyBack_eq (k : Nat) (l : List Pt) (hl : l.length ≤ 1048576) (hk : l.length + 30 < k) : ∃ r, spec_PolyBack.f k l = some r ∧ impl_PolyBack.f k l = some r ∧ r.1.length ≤ 12 := by
  unfold spec_PolyBack.f impl_PolyBack.f
  rw [l31Points_eq _ _ hl (by omega), cornersValid_eq _ _ (by omega)]
  simp only [Option.bind_some]
  by_cases h : cvB l = true
  · have hv := cvB_iff.1 h
    rw [if_pos h, if_pos h, if_pos (by omega), if_pos (by omega), if_pos (by omega), if_pos (by omega), if_pos (by simp)]
    simp only [List.nil_append]
    rw [Back_same, pw64 (by omega) (by omega), show (l.length : Int) - 1 = ((l.length - 1 : Nat) : Int) by omega]
    obtain ⟨r, e, hr⟩ := Back_ok (l := l) hv.1.2 (l.length - 1) [(⟨(rd_T37 l 0).f0, (rd_T37 l 0).f1⟩ : Pt)] k (by omega) (by omega) (by simp; omega)
    exact ⟨_, e, e, by simp at hr ⊢; omega⟩
  · rw [if_neg h, if_neg h]
    exact ⟨_, rfl, rfl, by simp⟩
theorem FnExactPolyBack : laws_FnExactPolyBack.Pure := by
  intro l hm _
  refine ⟨2000010, ?_⟩
  unfold laws_FnExactPolyBack.f
  rw [szPointS_eq l hm]
  simp only [Option.bind_some]
  by_cases h1 : l.length ≤ 1048576
  · rw [if_pos h1, if_neg (by omega), toPointS_eq _ l (by omega) h1]
    simp only [Option.bind_some]
    have hb : ∀ k, 1100000 < k → ∃ r, spec_PolyBack.f k (l.map toPt) = some r ∧ impl_PolyBack.f k (l.map toPt) = some r ∧ r.1.length ≤ 12 := fun k hk => PolyBack_eq k (l.map toPt) (by simpa using h1) (by simp; omega)
    obtain ⟨w, e1, e2, hlen⟩ := hb 2000010 (by omega)
    rw [e1, e2]
    simp only [Option.bind_some]
    have hsame : impl_PolyBack.f 2000008 (l.map toPt) = some w := by
      obtain ⟨w', e1', e2', _⟩ := hb 2000008 (by omega)
      have m1 := impl_PolyBack.mono (l.map toPt) 2000008
      have m2 := impl_PolyBack.mono (l.map toPt) 2000009
      have q1 := m1 _ e2'
      have q2 := m2 _ q1
      rw [e2] at q2
      rw [e2', ← q2]
    have hj2 : laws_FnExactPolyBack.j2 (2000007 + 1) (ascP 1 w.1.length) (1 + 2 * (w.1.length : Int)) false = some true := by
      simp only [laws_FnExactPolyBack.j2]
      rw [if_neg (by simp), heldPointS_eq _ _ (by omega) (by omega)]
      simp only [Option.bind_some]
      rw [if_neg (by omega), if_pos trivial]
    have hj1 : laws_FnExactPolyBack.j1 (2000008 + 1) l w.1 w.2 w.1 false = some true := by
      simp only [laws_FnExactPolyBack.j1]
      rw [if_neg (by simp), markPointS_eq _ _ (by omega) (by omega)]
      simp only [Option.bind_some]
      rw [heldPointS_eq _ _ (by omega) (by omega)]
      simp only [Option.bind_some]
      rw [if_neg (by omega), if_pos trivial, toPointS_eq _ l (by omega) h1]
      simp only [Option.bind_some]
      rw [hsame]
      simp only [Option.bind_some]
      rw [eqPointS_self _ _ (by omega) (by omega)]
      simp only [Option.bind_some, if_true, bne_self_eq_false]
      exact hj2
    have hj0 : laws_FnExactPolyBack.j0 (2000009 + 1) l w.1 w.2 (l.map toPt) w.1 w.2 false = some true := by
      simp only [laws_FnExactPolyBack.j0]
      rw [if_neg (by simp), toPointS_eq _ l (by omega) h1]
      simp only [Option.bind_some]
      rw [eqPointS_self _ _ (by simp; omega) (by simp; omega)]
      simp only [Option.bind_some, if_true]
      rw [markPointS_eq _ _ (by simp; omega) (by simp; omega)]
      simp only [Option.bind_some]
      rw [if_neg (by omega), eqPointS_self _ _ (by omega) (by omega)]
      simp only [Option.bind_some, if_true, bne_self_eq_false]
      exact hj1
    rw [eqPointS_self _ _ (by omega) (by omega)]
    simp only [Option.bind_some, if_true, bne_self_eq_false]
    exact hj0
  · rw [if_neg h1, if_pos (by omega)]
end Go.Proofs.Ytiieoannejlgiaa.Pure
