/- impl.PolyValid over lists of corners. -/
import Derived.Test.YtiieoannejlgiaaDrawn
import Derived.Test.YtiieoannejlgiaaRingOf
namespace Go.Proofs.Ytiieoannejlgiaa.Ring
open Go.RowKit Go.Shelf Go.Proofs.Ytiieoannejlgiaa.Q Go.Proofs.Ytiieoannejlgiaa.Drawn Go.Proofs.YtiieoannejlgiaaW.PrintWords Go.Proofs.YtiieoannejlgiaaW.PrintLast Go.Proofs.YtiieoannejlgiaaW.PrintMore
set_option linter.unusedVariables false
set_option linter.unusedSimpArgs false
attribute [local go_sem] Oper.semAt_some
theorem simple_isnt (A0 : Option Addr) (c0 : Nat) (l0 : List Pt) (w : World) (hr0 : Kd.C k37 w A0 l0.length l0) (hc0 : l0.length ≤ c0) (h : okS l0 = false) :
    Calls Try.prog 54 #[.slice A0 l0.length c0] w (NoRing w) := by
  cases hc : Pure.cvB l0
  · exact simple_isnt_a A0 c0 l0 w hr0 hc0 hc
  · exact simple_isnt_b A0 c0 l0 w hr0 hc0 hc (by unfold okS at h; rw [hc, Bool.true_and] at h; exact h)
theorem simple_yes (A0 : Option Addr) (c0 : Nat) (l0 : List Pt) (w : World) (hr0 : Kd.C k37 w A0 l0.length l0) (hc0 : l0.length ≤ c0) (h : okS l0 = true) :
    Calls Try.prog 54 #[.slice A0 l0.length c0] w (IsRing w l0) := by
  unfold okS at h
  rw [Bool.and_eq_true] at h
  exact simple_is A0 c0 l0 w hr0 hc0 h.1 h.2
set_option maxRecDepth 100000 in
set_option maxHeartbeats 4000000 in
theorem polyValid_no (A0 : Option Addr) (c0 : Nat) (l0 : List Pt) (w : World) (hr0 : Kd.C k37 w A0 l0.length l0) (hc0 : l0.length ≤ c0) (h : okS l0 = false) :
    Calls Try.prog 25 #[.slice A0 l0.length c0] w fun e w' => e = .returned (.bool false) ∧ Below w.heap.size w w' := by
  have HR0 := Aside0.mk hr0
  have HC0 := Aside0.mk hc0
  have HX := Aside0.mk h
  clear hr0 hc0 h
  go_enter Try.func25, Try.ntmps25
  go_wp2_with (go_at_call 54; refine (simple_isnt A0 c0 l0 _ ?s1 HC0.out HX.out).mono ?_; (case s1 => exact Kd.C_below HR0.out (by first | exact Below.refl _ _ | exact (Below.refl _ _).alloc (Nat.le_refl _) _)); rintro e w1 ⟨rfl, hb⟩; have HB := Aside0.mk ((Below.refl w.heap.size w).trans hb); clear hb)
  go_ret
  exact ⟨rfl, HB.out.alloc HB.out.size _⟩

set_option maxRecDepth 100000 in
set_option maxHeartbeats 4000000 in
theorem polyValid_yes (A0 : Option Addr) (c0 : Nat) (l0 : List Pt) (w : World) (hr0 : Kd.C k37 w A0 l0.length l0) (hc0 : l0.length ≤ c0) (h : okS l0 = true) :
    Calls Try.prog 25 #[.slice A0 l0.length c0] w fun e w' => e = .returned (.bool true) ∧ Below w.heap.size w w' := by
  have HR0 := Aside0.mk hr0
  have HC0 := Aside0.mk hc0
  have HX := Aside0.mk h
  clear hr0 hc0 h
  go_enter Try.func25, Try.ntmps25
  go_wp2_with (go_at_call 54; refine (simple_yes A0 c0 l0 _ ?s1 HC0.out HX.out).mono ?_; (case s1 => exact Kd.C_below HR0.out (by first | exact Below.refl _ _ | exact (Below.refl _ _).alloc (Nat.le_refl _) _)); rintro e w1 ⟨bs, rfl, hR, hlo0, hb⟩; have HR := Aside0.mk hR; have HB := Aside0.mk ((Below.refl w.heap.size w).trans hb); clear hb hR hlo0)
  go_ret
  exact ⟨rfl, HB.out.alloc HB.out.size _⟩

end Go.Proofs.Ytiieoannejlgiaa.Ring
