/- Functions of the translation as plain Lean functions, each with a proof that the Go code comes to its answers; written by a program of the prover's (a changed copy of the kit's printer). -/
import Derived.Test.YtiieoannejlgiaaQ0
import Derived.Test.YtiieoannejlgiaaRingPolyPlace
namespace Go.Proofs.Ytiieoannejlgiaa.Q
open Go.RowKit Go.Proofs.YtiieoannejlgiaaW.PrintWords Go.Proofs.YtiieoannejlgiaaW.PrintLast Go.Proofs.YtiieoannejlgiaaW.PrintMore
attribute [local go_sem] max2_int min2_int max_two min_two max_three min_three max_four min_four   -- for this text's walks alone
set_option linter.unusedVariables false
set_option linter.unusedSimpArgs false

/-! ### impl_PolyPlace: function 32 -/
def impl_PolyPlace.f (l0 : List (S37)) (a1_0 : Int) (a1_1 : Int) : Option (Int × Bool) := if Go.Proofs.Ytiieoannejlgiaa.Ring.okS l0 && Go.Proofs.Ytiieoannejlgiaa.Pure.ptB ⟨a1_0, a1_1⟩ then some (Go.Proofs.Ytiieoannejlgiaa.Ring.placeR l0 ⟨a1_0, a1_1⟩, true) else some (0, false)
theorem impl_PolyPlace.calls (A0 : Option Addr) (c0 : Nat) (l0 : List (S37)) (a1_0 : Int) (a1_1 : Int) (r1 : Int) (r2 : Bool) (w : World) (hr0 : Kd.C k37 w A0 l0.length l0) (hc0 : l0.length ≤ c0) (h : impl_PolyPlace.f l0 a1_0 a1_1 = some (r1, r2)) :
    Calls Try.prog 32 #[.slice A0 l0.length c0, .agg #[.int .i64 a1_0, .int .i64 a1_1]] w fun e w' => e = .returned (.tuple #[.int .i64 r1, .bool r2]) ∧ Below w.heap.size w w' := by
  unfold impl_PolyPlace.f at h
  cases c : Go.Proofs.Ytiieoannejlgiaa.Ring.okS l0
  · rw [c, Bool.false_and, if_neg (by decide)] at h
    obtain ⟨rfl, rfl⟩ := Prod.mk.inj (Option.some.inj h)
    exact Go.Proofs.Ytiieoannejlgiaa.Ring.polyPlace_no A0 c0 l0 ⟨a1_0, a1_1⟩ w hr0 hc0 c
  · cases q : Go.Proofs.Ytiieoannejlgiaa.Pure.ptB ⟨a1_0, a1_1⟩
    · rw [c, q, Bool.true_and, if_neg (by decide)] at h
      obtain ⟨rfl, rfl⟩ := Prod.mk.inj (Option.some.inj h)
      exact Go.Proofs.Ytiieoannejlgiaa.Ring.polyPlace_far A0 c0 l0 ⟨a1_0, a1_1⟩ w hr0 hc0 c q
    · rw [c, q, Bool.true_and, if_pos rfl] at h
      obtain ⟨rfl, rfl⟩ := Prod.mk.inj (Option.some.inj h)
      exact Go.Proofs.Ytiieoannejlgiaa.Ring.polyPlace_yes A0 c0 l0 ⟨a1_0, a1_1⟩ w hr0 hc0 c q


end Go.Proofs.Ytiieoannejlgiaa.Q
