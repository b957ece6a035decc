/- Functions of the translation as plain Lean functions, each with a proof that the Go code comes to its answers; written by a program of the prover's (a changed copy of the kit's printer). -/
import Derived.Test.YtiieoannejlgiaaQ0
import Derived.Test.YtiieoannejlgiaaRingParcelCommon
namespace Go.Proofs.Ytiieoannejlgiaa.Q
open Go.RowKit Go.Proofs.YtiieoannejlgiaaW.PrintWords Go.Proofs.YtiieoannejlgiaaW.PrintLast Go.Proofs.YtiieoannejlgiaaW.PrintMore
attribute [local go_sem] max2_int min2_int max_two min_two max_three min_three max_four min_four   -- for this text's walks alone
set_option linter.unusedVariables false
set_option linter.unusedSimpArgs false

/-! ### impl_ParcelCommon: function 34 -/
def impl_ParcelCommon.f (l0 : List (S37)) (l1 : List (S37)) : Option (Int) := if Go.Proofs.Ytiieoannejlgiaa.Ring.okP l0 && Go.Proofs.Ytiieoannejlgiaa.Ring.okP l1 then some (Go.Proofs.Ytiieoannejlgiaa.Ring.cntS l0 l1 l0.length) else some (-1)
theorem impl_ParcelCommon.calls (A0 : Option Addr) (c0 : Nat) (l0 : List (S37)) (A1 : Option Addr) (c1 : Nat) (l1 : List (S37)) (r : Int) (w : World) (hr0 : Kd.C k37 w A0 l0.length l0) (hc0 : l0.length ≤ c0) (hr1 : Kd.C k37 w A1 l1.length l1) (hc1 : l1.length ≤ c1) (h : impl_ParcelCommon.f l0 l1 = some r) :
    Calls Try.prog 34 #[.slice A0 l0.length c0, .slice A1 l1.length c1] w fun e w' => e = .returned (.int .i64 r) ∧ Below w.heap.size w w' := by
  unfold impl_ParcelCommon.f at h
  cases c : Go.Proofs.Ytiieoannejlgiaa.Ring.okP l0 <;> cases d : Go.Proofs.Ytiieoannejlgiaa.Ring.okP l1 <;> simp only [c, d, Bool.true_and, Bool.false_and, if_true, Bool.false_eq_true, if_false] at h <;> obtain rfl := Option.some.inj h
  · exact Go.Proofs.Ytiieoannejlgiaa.Ring.common_nn A0 c0 l0 A1 c1 l1 w hr0 hc0 hr1 hc1 c d
  · exact Go.Proofs.Ytiieoannejlgiaa.Ring.common_ny A0 c0 l0 A1 c1 l1 w hr0 hc0 hr1 hc1 c d
  · exact Go.Proofs.Ytiieoannejlgiaa.Ring.common_yn A0 c0 l0 A1 c1 l1 w hr0 hc0 hr1 hc1 c d
  · exact Go.Proofs.Ytiieoannejlgiaa.Ring.common_yy A0 c0 l0 A1 c1 l1 w hr0 hc0 hr1 hc1 c d


end Go.Proofs.Ytiieoannejlgiaa.Q
