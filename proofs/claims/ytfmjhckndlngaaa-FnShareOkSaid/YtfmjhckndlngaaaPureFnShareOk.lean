/- Drawn shares: the program tells what is right as the reference does; the shares it makes are as near as any right ones. -/
import Derived.Test.YtfmjhckndlngaaaDrawShares
import Derived.Test.YtfmjhckndlngaaaShareOkL
import Derived.Test.YtfmjhckndlngaaaShareB
import Derived.Test.YtfmjhckndlngaaaSumOf
import Derived.Test.YtfmjhckndlngaaaQ11
import Derived.Test.YtfmjhckndlngaaaQ26
import Derived.Test.YtfmjhckndlngaaaQ5
namespace Go.Proofs.Ytfmjhckndlngaaa.Pure
open Go.RowKit Go.Proofs.Ytfmjhckndlngaaa.Q Go.Proofs.YtfmjhckndlngaaaW.PrintWords Go.Proofs.YtfmjhckndlngaaaW.PrintLast
theorem nearB_iff (l : List Int) (a : Int) (s : List Int) : ∀ i : Nat, nearB l a s i = true ↔ ∀ j : Nat, j < s.length → ((rd s (j : Int) * l.sum - a * rd l ((i + j : Nat) : Int)).natAbs : Int) < l.sum := by
  induction s with
  | nil => intro i; simp [nearB]
  | cons y s ih =>
    intro i
    simp only [nearB, Bool.and_eq_true, decide_eq_true_eq, ih (i + 1), List.length_cons]
    constructor
    · rintro ⟨h1, h2⟩ j hj
      cases j with
      | zero => rw [rd_cons_zero, Nat.add_zero]; exact h1
      | succ j => have := h2 j (by omega); rw [rd_cons_succ, show i + (j + 1) = i + 1 + j by omega]; exact this
    · intro h
      refine ⟨?_, fun j hj => ?_⟩
      · have := h 0 (by omega); rw [rd_cons_zero, Nat.add_zero] at this; exact this
      · have := h (j + 1) (by omega); rw [rd_cons_succ, show i + (j + 1) = i + 1 + j by omega] at this; exact this
theorem FnShareOk : laws_FnShareOk.Pure := by
  intro l0 _ _ hl0
  refine ⟨1003, ?_⟩
  unfold laws_FnShareOk.f
  split
  · rfl
  · obtain ⟨l, a, s, hd, hl6, hsl⟩ := DrawShareOk_ok 1003 (by omega) hl0
    rw [hd]; simp only [Option.bind_some]
    rw [impl_ShareOk_eq _ _ _ _ (by omega), spec_ShareOk_eq _ _ _ _ (by omega) (by omega)]
    simp only [Option.bind_some]
    rw [if_neg (by simp)]
    simp only [laws_FnShareOk.j0]
    by_cases hok : okR l a s = true
    · rw [hok, if_neg (by simp), impl_ShareFar_eq _ _ _ _ (by omega)]
      simp only [Option.bind_some, impl_ShareOf.f]
      have h := of_decide_eq_true hok
      obtain ⟨hv, _, hnear, hsum⟩ := h
      obtain ⟨p, t, hSP⟩ := share_SP hv
      have e : shR l a = (pickN (a - (fl l a).sum).toNat (fl l a) (rs l a), true) := by unfold shR; rw [if_pos hv]
      rw [e, if_pos rfl]
      simp only []
      generalize pickN (a - (fl l a).sum).toNat (fl l a) (rs l a) = out at *
      have hn := (nearB_iff l a s 0).1 hnear
      simp only [Nat.zero_add] at hn
      have hs := hv.1.sum
      -- the drawn shares are in range
      have hfar : sfR l a s = (farN l a s 0 : Int) := by
        unfold sfR
        have hin : shIn 20000000 s := fun x hx => by
          obtain ⟨i, hi, rfl⟩ := mem_rd hx
          have := near_small hv (i := i) (by omega) (hn i hi)
          omega
        rw [if_pos ⟨hv, hsl, hin⟩]
      have hfar2 : sfR l a out = (farN l a out 0 : Int) := by
        unfold sfR
        have hin : shIn 20000000 out := fun x hx => by
          obtain ⟨i, hi, rfl⟩ := mem_rd hx
          have := hSP.bd hv i (by have := hSP.len; omega)
          omega
        rw [if_pos ⟨hv, hSP.len, hin⟩]
      have hbest := hSP.best s hsl (fun i => rd s (i : Int) - rd out (i : Int)) (fun i hi => by
        have b1 := hSP.near_bits i hi (hn i (by omega))
        have b2 := hSP.near_bits i hi (hSP.near i hi)
        refine ⟨by omega, ?_⟩
        omega) (by
        have e1 : sg l.length (fun i => (rd s (i : Int) - rd out (i : Int)) + rd out (i : Int)) = sg l.length (fun i => rd s (i : Int)) := sg_congr _ (fun i _ => by omega)
        rw [sg_add] at e1
        have e2 := sum_sg s
        have e3 := sum_sg out
        rw [hSP.total, hSP.len] at e3
        rw [hsum, hsl] at e2
        omega)
      rw [sumOf_eq 1002 20000000 s (by omega) (fun x hx => by
        obtain ⟨i, hi, rfl⟩ := mem_rd hx
        have := near_small hv (i := i) (by omega) (hn i hi)
        omega) (by omega) (by omega)]
      simp only [Option.bind_some]
      rw [if_pos hsum, impl_ShareFar_eq _ _ _ _ (by omega)]
      simp only [Option.bind_some]
      rw [hfar, hfar2, if_pos (by omega), sumOf_eq 1002 10000 l (by omega) (fun x hx => by have := hv.1.1 x hx; omega) (by omega) (by omega)]
      simp only [Option.bind_some]
      have hp := mulb (x := (l.length : Int)) (y := l.sum) (m := 20) (n := 200000) (by omega) (by omega) (by omega) (by omega)
      rw [sw64 (by omega) (by omega)]
      -- all near: the sum is less than the count times the sum of the lengths
      have hlt : (farN l a s 0 : Int) < (l.length : Int) * l.sum := by
        rw [farN_sg, hsl]
        have h1 := hv.1.2.1
        have hle : sg l.length (fun j => ((rd s (j : Int) * l.sum - a * rd l ((0 + j : Nat) : Int)).natAbs : Int)) ≤ sg l.length (fun j => 1 * (l.sum - 1)) := sg_le _ (fun i hi => by
          rw [Nat.zero_add]; have := hn i (by omega); omega)
        rw [sg_mul] at hle
        have e5 : ∀ n : Nat, sg n (fun _ => (1 : Int)) = n := by
          intro n
          induction n with
          | zero => rfl
          | succ n ih => simp only [sg]; rw [ih]; omega
        rw [e5, Int.mul_sub] at hle
        omega
      congr 1
      exact decide_eq_true hlt
    · have hf : okR l a s = false := by simpa using hok
      rw [hf]; simp
end Go.Proofs.Ytfmjhckndlngaaa.Pure
