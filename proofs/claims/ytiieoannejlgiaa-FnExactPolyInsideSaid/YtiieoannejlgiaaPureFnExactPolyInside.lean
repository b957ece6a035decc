/- The program's PolyInside and the reference's answer the same, for all arguments. -/
import Derived.Test.YtiieoannejlgiaaPolyPts
import Derived.Test.YtiieoannejlgiaaEdgeL
import Derived.Test.YtiieoannejlgiaaAreaL
import Derived.Test.YtiieoannejlgiaaQ48
import Derived.Test.YtiieoannejlgiaaQ49
import Derived.Test.YtiieoannejlgiaaQ5
import Derived.Test.YtiieoannejlgiaaQ50
namespace Go.Proofs.Ytiieoannejlgiaa.Pure
open Go.RowKit Go.Proofs.Ytiieoannejlgiaa.Q Go.Proofs.Ytiieoannejlgiaa.Ring Go.Proofs.YtiieoannejlgiaaW.PrintWords Go.Proofs.YtiieoannejlgiaaW.PrintLast
theorem implInside_eq (l : List Pt) : impl_PolyInside.f l = some (if okS l = true then insideR l else -1) := by unfold impl_PolyInside.f; cases okS l <;> rfl
theorem sizeW (x : Int) (h : -9223372036854775808 ≤ x ∧ x ≤ 9223372036854775807) : spec_l1Size.f x = some (absW x) := by
  unfold spec_l1Size.f absW mx
  congr 1
  unfold wrap64
  repeat' split
  all_goals omega
theorem area_in (l : List Pt) (j : Nat) : -9223372036854775808 ≤ areaS l j ∧ areaS l j ≤ 9223372036854775807 := by
  cases j with
  | zero => simp [areaS]
  | succ j => rw [areaS]; generalize areaS l j + crossP (at_ l j) (nxt l j) = x; unfold wrap64; omega
theorem specInside_eq {l : List Pt} (h : l.length ≤ 1048576) (k : Nat) (hk : l.length + 20002 < k) : spec_PolyInside.f k l = some (if okS l = true then insideR l else -1) := by
  unfold spec_PolyInside.f
  rw [specEdge_eq h k hk]
  simp only [Option.bind_some]
  by_cases c : okS l = true
  · have hc : cvB l = true := by unfold okS at c; exact (Bool.and_eq_true _ _ ▸ c).1
    have := (edge_bd hc l.length (Nat.le_refl _)).1
    rw [if_pos c, if_pos c, if_neg (by omega), spec_l31Area.f, show spec_l31Area.l0 k l 0 0 = some (areaS l l.length) from Area_l0 h l.length 0 k (by omega) (by omega)]
    simp only [Option.bind_some]
    rw [sizeW _ (area_in l _)]
    rfl
  · rw [if_neg c, if_neg c, if_pos (by omega)]
theorem FnExactPolyInside : laws_FnExactPolyInside.Pure := by
  intro l hm _
  refine ⟨2000010, ?_⟩
  unfold laws_FnExactPolyInside.f
  rw [szPointS_eq l hm]
  simp only [Option.bind_some]
  by_cases h1 : l.length ≤ 1048576
  · rw [if_pos h1, if_neg (by omega), toPointS_eq _ l (by omega) h1]
    simp only [Option.bind_some]
    rw [specInside_eq (l := l.map toPt) (by simpa using h1) _ (by simp; omega), implInside_eq]
    simp only [Option.bind_some, if_true]
    rw [eqPointS_self _ _ (by simp; omega) (by simp; omega)]
    rfl
  · rw [if_neg h1, if_pos (by omega)]
end Go.Proofs.Ytiieoannejlgiaa.Pure
