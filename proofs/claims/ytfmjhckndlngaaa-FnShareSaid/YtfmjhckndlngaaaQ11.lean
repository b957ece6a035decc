/- Functions of the translation as plain Lean functions, each with a proof that the Go code comes to its answers; written by a program of the prover's (a changed copy of the kit's printer). -/
import Derived.Test.YtfmjhckndlngaaaQ0
import Derived.Test.YtfmjhckndlngaaaHeapE
namespace Go.Proofs.Ytfmjhckndlngaaa.Q
open Go.RowKit Go.Proofs.YtfmjhckndlngaaaW.PrintWords Go.Proofs.YtfmjhckndlngaaaW.PrintLast Go.Proofs.YtfmjhckndlngaaaW.PrintMore
attribute [local go_sem] max2_int min2_int max_two min_two max_three min_three max_four min_four   -- for this text's walks alone
set_option linter.unusedVariables false
set_option linter.unusedSimpArgs false

/-! ### impl_ShareOf: function 19 -/
def impl_ShareOf.f (l0 : List Int) (a1 : Int) : Option (List Int × Bool) := some (Go.Proofs.Ytfmjhckndlngaaa.Pure.shR l0 a1)
theorem impl_ShareOf.calls (A0 : Option Addr) (c0 : Nat) (l0 : List Int) (a1 : Int) (r1 : List Int) (r2 : Bool) (w : World) (hr0 : Kd.C (Kd.int .i64) w A0 l0.length l0) (hc0 : l0.length ≤ c0) (h : impl_ShareOf.f l0 a1 = some (r1, r2)) :
    Calls Try.prog 19 #[.slice A0 l0.length c0, .int .i64 a1] w fun e w' => ∃ v0_ : Value, e = .returned (.tuple #[v0_, .bool r2]) ∧ Kd.R (Kd.int .i64) 3 w' w.heap.size (fun _ => True) v0_ r1 ∧ Below w.heap.size w w' := by
  obtain ⟨rfl, rfl⟩ : (Go.Proofs.Ytfmjhckndlngaaa.Pure.shR l0 a1).1 = r1 ∧ (Go.Proofs.Ytfmjhckndlngaaa.Pure.shR l0 a1).2 = r2 := by
    have := Option.some.inj h
    rw [this]; exact ⟨rfl, rfl⟩
  exact Go.Proofs.Ytfmjhckndlngaaa.HeapW.shareOf_all A0 c0 l0 a1 w hr0 hc0


end Go.Proofs.Ytfmjhckndlngaaa.Q
