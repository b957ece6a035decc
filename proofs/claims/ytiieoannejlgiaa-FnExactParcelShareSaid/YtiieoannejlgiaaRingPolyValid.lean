/- impl.PolyValid over lists of corners. -/
import Derived.Test.YtiieoannejlgiaaDrawn
import Derived.Test.YtiieoannejlgiaaRingOf
namespace Go.Proofs.Ytiieoannejlgiaa.Ring
open Go.RowKit Go.Shelf Go.Proofs.Ytiieoannejlgiaa.Q Go.Proofs.Ytiieoannejlgiaa.Drawn Go.Proofs.YtiieoannejlgiaaW.PrintWords Go.Proofs.YtiieoannejlgiaaW.PrintLast Go.Proofs.YtiieoannejlgiaaW.PrintMore
set_option linter.unusedVariables false
set_option linter.unusedSimpArgs false
attribute [local go_sem] Oper.semAt_some
theorem simple_isnt (A0 : Option Addr) (c0 : Nat) (l0 : List Pt) (w : World) (hr0 : Kd.C k37 w A0 l0.length l0) (hc0 : l0.length ≤ c0) (h : okS l0 = false) :
  Calls Try.prog 54 #[.slice A0 l0.length c0] w (NoRing w) := by
 cases hc : Pure.cvB l0
 ·exact simple_isnt_a A0 c0 l0 w hr0 hc0 hc
 ·exact simple_isnt_b A0 c0 l0 w hr0 hc0 hc (by unfold okS at h; rw [hc, Bool.true_and] at h; exact h)
theorem simple_yes (A0 : Option Addr) (c0 : Nat) (l0 : List Pt) (w : World) (hr0 : Kd.C k37 w A0 l0.length l0) (hc0 : l0.length ≤ c0) (h : okS l0 = true) :
  Calls Try.prog 54 #[.slice A0 l0.length c0] w (IsRing w l0) := by
 unfold okS at h
 rw [Bool.and_eq_true] at h
 exact simple_is A0 c0 l0 w hr0 hc0 h.1 h.2
end Go.Proofs.Ytiieoannejlgiaa.Ring
