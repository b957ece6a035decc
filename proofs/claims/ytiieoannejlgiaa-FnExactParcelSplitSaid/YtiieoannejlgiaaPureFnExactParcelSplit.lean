/- The program's ParcelSplit and the reference's answer the same, for all arguments; its results share no memory. -/
import Derived.Test.YtiieoannejlgiaaMarkPts
import Derived.Test.YtiieoannejlgiaaSplitL
import Derived.Test.YtiieoannejlgiaaQ3
import Derived.Test.YtiieoannejlgiaaQ35
import Derived.Test.YtiieoannejlgiaaQ36
import Derived.Test.YtiieoannejlgiaaQ37
import Derived.Test.YtiieoannejlgiaaQ4
namespace Go.Proofs.Ytiieoannejlgiaa.Pure
open Go.RowKit Go.Proofs.Ytiieoannejlgiaa.Q Go.Proofs.Ytiieoannejlgiaa.Ring Go.Proofs.YtiieoannejlgiaaW.PrintWords Go.Proofs.YtiieoannejlgiaaW.PrintLast
theorem markAt (k : Nat) (l : List Pt) (s : Int) (hs : 0 ≤ s) (hs2 : s ≤ 1000000000) (hk : l.length < k) (hl : l.length ≤ 1000000000) : laws_markPointS.f k l s = some (s + 2 * (l.length : Int), ascP s l.length) := by
  have := markPointS_l0 l [] s k hk (by simp; omega) hs (by omega)
  simpa [laws_markPointS.f] using this
theorem heldAt (k n : Nat) (s : Int) (hs : 0 ≤ s) (hs2 : s ≤ 1000000000) (hk : n < k) (hl : n ≤ 1000000000) : laws_heldPointS.f k (ascP s n) s = some (s + 2 * (n : Int)) := by
  have := heldPointS_l0 n [] s k hk (by simp; omega) hs (by omega)
  simpa [laws_heldPointS.f] using this
theorem FnExactParcelSplit : laws_FnExactParcelSplit.Pure := by
  intro l a b hm _ ha hb
  have ha' : -9223372036854775808 ≤ a ∧ a ≤ 9223372036854775807 := by have h := ha; simp [Lit.wf] at h; exact ⟨h.1, h.2⟩
  have hb' : -9223372036854775808 ≤ b ∧ b ≤ 9223372036854775807 := by have h := hb; simp [Lit.wf] at h; exact ⟨h.1, h.2⟩
  refine ⟨2000010, ?_⟩
  unfold laws_FnExactParcelSplit.f
  rw [szPointS_eq l hm]
  simp only [Option.bind_some]
  by_cases h1 : l.length ≤ 1048576
  · rw [if_pos h1, if_neg (by omega), toPointS_eq _ l (by omega) h1]
    simp only [Option.bind_some]
    rw [specSplit_eq (l := l.map toPt) (by simpa using h1) ha' hb' _ (by simp; omega), implSplit_eq _ (by omega)]
    simp only [Option.bind_some]
    obtain ⟨hA, hB⟩ := splitR_len (l.map toPt) a b
    have hI : ∀ k, 0 < k → impl_ParcelSplit.f k (l.map toPt) a b = some (splitR (l.map toPt) a b) := fun k hk => implSplit_eq k hk
    generalize splitR (l.map toPt) a b = w at hA hB hI ⊢
    obtain ⟨x, y, ok⟩ := w
    dsimp only at hA hB ⊢
    rw [eqPointS_self _ x (by omega) (by omega)]
    simp only [Option.bind_some, if_true]
    rw [eqPointS_self _ y (by omega) (by omega)]
    simp only [Option.bind_some, if_true, bne_self_eq_false]
    have hj2 : laws_FnExactParcelSplit.j2 (2000007 + 1) (ascP 1 x.length) (ascP (1 + 2 * (x.length : Int)) y.length) (1 + 2 * (x.length : Int) + 2 * (y.length : Int)) false = some true := by
      simp only [laws_FnExactParcelSplit.j2]
      rw [if_neg (by simp), heldAt _ _ _ (by omega) (by omega) (by omega) (by omega)]
      simp only [Option.bind_some]
      rw [if_neg (by omega), heldAt _ _ _ (by omega) (by omega) (by omega) (by omega)]
      simp only [Option.bind_some]
      rw [if_neg (by omega), if_pos trivial]
    have hj1 : laws_FnExactParcelSplit.j1 (2000008 + 1) l a b x y ok x y false = some true := by
      simp only [laws_FnExactParcelSplit.j1]
      rw [if_neg (by simp), markAt _ x 1 (by omega) (by omega) (by omega) (by omega)]
      simp only [Option.bind_some]
      rw [markAt _ y _ (by omega) (by omega) (by omega) (by omega)]
      simp only [Option.bind_some]
      rw [heldAt _ _ _ (by omega) (by omega) (by omega) (by omega)]
      simp only [Option.bind_some]
      rw [if_neg (by omega), heldAt _ _ _ (by omega) (by omega) (by omega) (by omega)]
      simp only [Option.bind_some]
      rw [if_neg (by omega), if_pos trivial, toPointS_eq _ l (by omega) h1]
      simp only [Option.bind_some]
      rw [hI _ (by omega)]
      simp only [Option.bind_some]
      rw [eqPointS_self _ x (by omega) (by omega)]
      simp only [Option.bind_some, if_true]
      rw [eqPointS_self _ y (by omega) (by omega)]
      simp only [Option.bind_some, if_true, bne_self_eq_false]
      exact hj2
    have hj0 : laws_FnExactParcelSplit.j0 (2000009 + 1) l a b x y ok (l.map toPt) x y ok false = some true := by
      simp only [laws_FnExactParcelSplit.j0]
      rw [if_neg (by simp), toPointS_eq _ l (by omega) h1]
      simp only [Option.bind_some]
      rw [eqPointS_self _ _ (by simp; omega) (by simp; omega)]
      simp only [Option.bind_some, if_true]
      rw [markAt _ _ 1 (by omega) (by omega) (by simp; omega) (by simp; omega)]
      simp only [Option.bind_some]
      rw [if_neg (by omega), eqPointS_self _ x (by omega) (by omega)]
      simp only [Option.bind_some, if_true]
      rw [eqPointS_self _ y (by omega) (by omega)]
      simp only [Option.bind_some, if_true, bne_self_eq_false]
      exact hj1
    exact hj0
  · rw [if_neg h1, if_pos (by omega)]
end Go.Proofs.Ytiieoannejlgiaa.Pure
