/- Closed forms of NetWithout (chapter 22). -/
import Derived.Test.YtbbpianfoimejaaRuns
import Derived.Test.YtbbpianfoimejaaQ11
import Derived.Test.YtbbpianfoimejaaQ12
import Derived.Test.YtbbpianfoimejaaQ7
namespace Go.Proofs.Ytbbpianfoimejaa.Pure
open Go.RowKit Go.Proofs.Ytbbpianfoimejaa.Q Go.Proofs.YtbbpianfoimejaaW.PrintWords Go.Proofs.YtbbpianfoimejaaW.PrintLast
/-- What NetWithout answers. -/
def withoutR (n : Int) (l : List Run) (k : Int) : List Run × Bool := if nvB n l = true ∧ 0 ≤ k ∧ k < l.length then (l.take k.toNat ++ l.drop (k.toNat + 1), true) else ([], false)
theorem withoutR_length (n : Int) (l : List Run) (k : Int) : (withoutR n l k).1.length ≤ l.length := by
  unfold withoutR
  split
  · simp; omega
  · simp
theorem hasRun_eq (q : Nat) (n : Int) (l : List Run) (k : Int) (hq : 20 < q) : impl_hasRun.f q n l k = some (decide (nvB n l = true ∧ 0 ≤ k ∧ k < l.length)) := by
  simp only [impl_hasRun.f, impl_NetValid_eq q n l hq, Option.bind_some]
  by_cases h : nvB n l = true
  · rw [if_pos h]
    by_cases h0 : k ≥ 0
    · rw [if_pos h0]; congr 1; rw [decide_eq_decide]; exact ⟨fun z => ⟨h, h0, z⟩, fun z => z.2.2⟩
    · rw [if_neg h0]; congr 1; symm; rw [decide_eq_false_iff_not]; exact fun z => h0 z.2.1
  · rw [if_neg h]; congr 1; symm; rw [decide_eq_false_iff_not]; exact fun z => h z.1
theorem spec_NetWithout_eq (q : Nat) (n : Int) (l : List Run) (k : Int) (hq : 40 < q) : spec_NetWithout.f q n l k = some (withoutR n l k) := by
  simp only [spec_NetWithout.f, spec_NetValid_eq q n l hq, n6In_eq, Option.bind_some]
  unfold withoutR
  by_cases h : nvB n l = true
  · have hl := (nvB_iff.1 h).1.2.2
    rw [if_pos h, nw64 (x := (l.length : Int) - 1) (by omega) (by omega)]
    by_cases h0 : 0 ≤ k ∧ k ≤ (l.length : Int) - 1
    · rw [if_pos (by simpa using h0), if_pos (by omega), if_pos (by omega), if_pos (by simp; omega), nw64 (x := k + 1) (by omega) (by omega), if_pos (by omega), if_pos (by omega), if_pos (by simp; omega), if_pos ⟨h, by omega, by omega⟩]
      rw [show (k + 1).toNat = k.toNat + 1 by omega]; simp
    · rw [if_neg (by simpa using h0), if_neg (fun z => h0 (by omega))]
  · rw [if_neg h, if_neg (fun z => h z.1)]
theorem impl_NetWithout_eq (q : Nat) (n : Int) (l : List Run) (k : Int) (hq : 20 < q) : impl_NetWithout.f q n l k = some (withoutR n l k) := by
  simp only [impl_NetWithout.f, hasRun_eq q n l k hq, Option.bind_some]
  unfold withoutR
  by_cases h : nvB n l = true ∧ 0 ≤ k ∧ k < l.length
  · have hl := (nvB_iff.1 h.1).1.2.2
    have h2 := h.2
    rw [if_pos (by simpa using h), nw64 (x := (l.length : Int) - 1) (by omega) (by omega), if_pos (by omega), if_pos (by omega), if_pos (by omega), if_pos (by omega), if_pos (by simp; omega), nw64 (x := k + 1) (by omega) (by omega), if_pos (by omega), if_pos (by omega), if_pos (by simp; omega), if_pos h]
    rw [show (k + 1).toNat = k.toNat + 1 by omega]; simp
  · rw [if_neg (by simpa using h), if_neg h]
end Go.Proofs.Ytbbpianfoimejaa.Pure
