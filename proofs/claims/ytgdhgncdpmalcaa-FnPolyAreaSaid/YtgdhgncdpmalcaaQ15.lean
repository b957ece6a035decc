/- Functions of the translation as plain Lean functions, each with a proof that the Go code comes to its answers; written by a program of the prover's (a changed copy of the kit's printer). -/
import Derived.Test.YtgdhgncdpmalcaaQ0
import Derived.Test.YtgdhgncdpmalcaaRingPolyArea
namespace Go.Proofs.Ytgdhgncdpmalcaa.Q
open Go.RowKit Go.Proofs.YtgdhgncdpmalcaaW.PrintWords Go.Proofs.YtgdhgncdpmalcaaW.PrintLast Go.Proofs.YtgdhgncdpmalcaaW.PrintMore
attribute [local go_sem] max2_int min2_int max_two min_two max_three min_three max_four min_four   -- for this text's walks alone
set_option linter.unusedVariables false
set_option linter.unusedSimpArgs false

/-! ### impl_PolyArea: function 12 -/
def impl_PolyArea.f (l0 : List (S32)) : Option (Int × Bool) := if Go.Proofs.Ytgdhgncdpmalcaa.Pure.cvB l0 then some (Go.Proofs.Ytgdhgncdpmalcaa.Ring.areaS l0 l0.length, true) else some (0, false)
theorem impl_PolyArea.calls (A0 : Option Addr) (c0 : Nat) (l0 : List (S32)) (r1 : Int) (r2 : Bool) (w : World) (hr0 : Kd.C k32 w A0 l0.length l0) (hc0 : l0.length ≤ c0) (h : impl_PolyArea.f l0 = some (r1, r2)) :
    Calls Try.prog 12 #[.slice A0 l0.length c0] w fun e w' => e = .returned (.tuple #[.int .i64 r1, .bool r2]) ∧ Below w.heap.size w w' := by
  unfold impl_PolyArea.f at h
  by_cases c : Go.Proofs.Ytgdhgncdpmalcaa.Pure.cvB l0 = true
  · rw [if_pos c] at h
    obtain ⟨rfl, rfl⟩ := Prod.mk.inj (Option.some.inj h)
    exact Go.Proofs.Ytgdhgncdpmalcaa.Ring.polyArea_yes A0 c0 l0 w hr0 hc0 c
  · rw [if_neg c] at h
    obtain ⟨rfl, rfl⟩ := Prod.mk.inj (Option.some.inj h)
    exact Go.Proofs.Ytgdhgncdpmalcaa.Ring.polyArea_no A0 c0 l0 w hr0 hc0 (Bool.eq_false_iff.2 c)


end Go.Proofs.Ytgdhgncdpmalcaa.Q
