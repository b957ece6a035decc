/- Closed forms of the reference's meetings of segments. -/
import Derived.Test.YtiieoannejlgiaaRingSimple
import Derived.Test.YtiieoannejlgiaaPolyCv
import Derived.Test.YtiieoannejlgiaaQ17
import Derived.Test.YtiieoannejlgiaaQ18
import Derived.Test.YtiieoannejlgiaaQ19
namespace Go.Proofs.Ytiieoannejlgiaa.Ring
open Go.RowKit Go.Shelf Go.Proofs.Ytiieoannejlgiaa.Q Go.Proofs.Ytiieoannejlgiaa.Drawn Go.Proofs.YtiieoannejlgiaaW.PrintWords Go.Proofs.YtiieoannejlgiaaW.PrintLast Go.Proofs.YtiieoannejlgiaaW.PrintMore
theorem pv_at {l : List Pt} (h : Pure.cvB l = true) {j : Nat} (hj : j < l.length) : Pure.PV (at_ l j).f0 (at_ l j).f1 = true := by
  have := Pure.ptB_iff.1 ((Pure.cvB_iff.1 h).2 (at_ l j) (by unfold at_; rw [List.getD_eq_getElem?_getD, List.getElem?_eq_getElem hj]; exact List.getElem_mem hj))
  exact Pure.PV_iff.2 ⟨this.1.1, this.1.2, this.2.1, this.2.2⟩
def PVP (p : Pt) : Prop := Pure.PV p.f0 p.f1 = true
theorem on_f {p q r : Pt} (hp : PVP p) (hq : PVP q) (hr : PVP r) : spec_l2On.f p.f0 p.f1 q.f0 q.f1 r.f0 r.f1 = some (onPt p q r) := by
  rw [Pure.spec_l2On_eq hp hq hr]
  unfold onPt Pure.onR
  congr 1
  rw [decide_eq_decide]
  exact ⟨fun h => ⟨hp, hq, hr, h⟩, fun h => h.2.2.2⟩
theorem side_f {p q r : Pt} (hp : PVP p) (hq : PVP q) (hr : PVP r) : spec_l31Side.f p.f0 p.f1 q.f0 q.f1 r.f0 r.f1 = some (sgnP p q r) := by
  unfold spec_l31Side.f
  rw [Pure.spec_l2Step_eq hp hq, Pure.spec_l2Step_eq hp hr]
  simp only [Option.bind_some]
  rw [Pure.spec_cross_eq hp hq hr]
  simp only [Option.bind_some]
  rw [Pure.l1Sign_eq]
  simp only [Option.bind_some]
  unfold sgnP
  rw [Pure.sideR_yes hp hq hr]
theorem sgn_mul (p q r p' q' r' : Pt) : wrap64 (sgnP p q r * sgnP p' q' r') = sgnP p q r * sgnP p' q' r' := by
  obtain ⟨a, b⟩ := sgnP_bd p q r
  obtain ⟨c, d⟩ := sgnP_bd p' q' r'
  generalize sgnP p q r = x at *
  generalize sgnP p' q' r' = y at *
  have hx : x = -1 ∨ x = 0 ∨ x = 1 := by omega
  have hy : y = -1 ∨ y = 0 ∨ y = 1 := by omega
  rcases hx with rfl | rfl | rfl <;> rcases hy with rfl | rfl | rfl <;> exact Pure.pw64 (by decide) (by decide)
theorem meet_f {a b c d : Pt} (ha : PVP a) (hb : PVP b) (hc : PVP c) (hd : PVP d) : spec_l31Meet.f 1 a.f0 a.f1 b.f0 b.f1 c.f0 c.f1 d.f0 d.f1 = some (meetPt a b c d) := by
  unfold spec_l31Meet.f
  rw [on_f ha hb hc, on_f ha hb hd, on_f hc hd ha, on_f hc hd hb]
  simp only [Option.bind_some, spec_l31Meet.j0]
  rw [side_f ha hb hc, side_f ha hb hd, side_f hc hd ha, side_f hc hd hb]
  simp only [Option.bind_some, sgn_mul]
  unfold meetPt
  cases onPt a b c
  · cases onPt a b d
    · cases onPt c d a
      · cases onPt c d b
        · simp only [Bool.false_eq_true, if_false, Bool.false_or]
          by_cases h : sgnP a b c * sgnP a b d < 0
          · rw [if_pos h, decide_eq_true h, Bool.true_and]
          · rw [if_neg h, decide_eq_false h, Bool.false_and]
        · rfl
      · rfl
    · rfl
  · rfl
end Go.Proofs.Ytiieoannejlgiaa.Ring
