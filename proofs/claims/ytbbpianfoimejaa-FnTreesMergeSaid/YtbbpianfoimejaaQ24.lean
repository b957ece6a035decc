/- Functions of the translation as plain Lean functions, each with a proof that the Go code comes to its answers; written by a program of the prover's (a changed copy of the kit's printer). -/
import Derived.Test.YtbbpianfoimejaaQ0
import Derived.Test.YtbbpianfoimejaaMergeE
namespace Go.Proofs.Ytbbpianfoimejaa.Q
open Go.RowKit Go.Proofs.YtbbpianfoimejaaW.PrintWords Go.Proofs.YtbbpianfoimejaaW.PrintLast Go.Proofs.YtbbpianfoimejaaW.PrintMore
attribute [local go_sem] max2_int min2_int max_two min_two max_three min_three max_four min_four   -- for this text's walks alone
set_option linter.unusedVariables false
set_option linter.unusedSimpArgs false

/-! ### impl_NetMerge: function 25 -/
def impl_NetMerge.f (a0 : Int) (l1 : List (S46)) (a2 : Int) : Option (Int × (List (S46)) × Bool) := some (Go.Proofs.Ytbbpianfoimejaa.MergeW.mrR a0 l1 a2)
theorem impl_NetMerge.calls (a0 : Int) (A1 : Option Addr) (c1 : Nat) (l1 : List (S46)) (a2 : Int) (r1 : Int) (r2 : List (S46)) (r3 : Bool) (w : World) (hr1 : Kd.C k46 w A1 l1.length l1) (hc1 : l1.length ≤ c1) (h : impl_NetMerge.f a0 l1 a2 = some (r1, r2, r3)) :
    Calls Try.prog 25 #[.int .i64 a0, .slice A1 l1.length c1, .int .i64 a2] w fun e w' => ∃ v1_ : Value, e = .returned (.tuple #[.int .i64 r1, v1_, .bool r3]) ∧ Kd.R k46 46 w' w.heap.size (fun _ => True) v1_ r2 ∧ Below w.heap.size w w' := by
  obtain ⟨rfl, rfl, rfl⟩ : (Go.Proofs.Ytbbpianfoimejaa.MergeW.mrR a0 l1 a2).1 = r1 ∧ (Go.Proofs.Ytbbpianfoimejaa.MergeW.mrR a0 l1 a2).2.1 = r2 ∧ (Go.Proofs.Ytbbpianfoimejaa.MergeW.mrR a0 l1 a2).2.2 = r3 := by
    have := Option.some.inj h
    rw [this]; exact ⟨rfl, rfl, rfl⟩
  exact Go.Proofs.Ytbbpianfoimejaa.MergeW.netMerge_all a0 a2 A1 c1 l1 w hr1 hc1


end Go.Proofs.Ytbbpianfoimejaa.Q
