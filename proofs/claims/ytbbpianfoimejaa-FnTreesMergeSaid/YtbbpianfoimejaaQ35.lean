/- Functions of the translation as plain Lean functions, each with a proof that the Go code comes to its answers; written by a program of the prover's (a changed copy of the kit's printer). -/
import Derived.Test.YtbbpianfoimejaaQ0
import Derived.Test.YtbbpianfoimejaaLinkP
namespace Go.Proofs.Ytbbpianfoimejaa.Q
open Go.RowKit Go.Proofs.YtbbpianfoimejaaW.PrintWords Go.Proofs.YtbbpianfoimejaaW.PrintLast Go.Proofs.YtbbpianfoimejaaW.PrintMore
attribute [local go_sem] max2_int min2_int max_two min_two max_three min_three max_four min_four   -- for this text's walks alone
set_option linter.unusedVariables false
set_option linter.unusedSimpArgs false

/-! ### impl_leastLinked: function 48 -/
def impl_leastLinked.f (a0 : Int) (l1 : List (S46)) : Option (List Int) := if Go.Proofs.Ytbbpianfoimejaa.Pure.nvB a0 l1 = true then some (Go.Proofs.Ytbbpianfoimejaa.Pure.leastR a0 l1) else none
theorem impl_leastLinked.calls (a0 : Int) (A1 : Option Addr) (c1 : Nat) (l1 : List (S46)) (r : List Int) (w : World) (hr1 : Kd.C k46 w A1 l1.length l1) (hc1 : l1.length ≤ c1) (h : impl_leastLinked.f a0 l1 = some r) :
    Calls Try.prog 48 #[.int .i64 a0, .slice A1 l1.length c1] w fun e w' => ∃ v0_ : Value, e = .returned (v0_) ∧ Kd.R (Kd.int .i64) 3 w' w.heap.size (fun _ => True) v0_ r ∧ Below w.heap.size w w' := by
  unfold impl_leastLinked.f at h
  by_cases c : Go.Proofs.Ytbbpianfoimejaa.Pure.nvB a0 l1 = true
  · rw [if_pos c] at h
    obtain rfl := Option.some.inj h
    exact Go.Proofs.Ytbbpianfoimejaa.Pure.leastLinked_all a0 A1 c1 l1 w hr1 hc1 c
  · rw [if_neg c] at h
    exact absurd h (by simp)


end Go.Proofs.Ytbbpianfoimejaa.Q
