/- Drawn lengths and amount: 1 moved from one share to another brings the shares no nearer to the exact ones. -/
import Derived.Test.YtfmjhckndlngaaaDrawShareOf
import Derived.Test.YtfmjhckndlngaaaShareB
import Derived.Test.YtfmjhckndlngaaaSumOf
import Derived.Test.YtfmjhckndlngaaaQ11
import Derived.Test.YtfmjhckndlngaaaQ24
import Derived.Test.YtfmjhckndlngaaaQ5
namespace Go.Proofs.Ytfmjhckndlngaaa.Pure
open Go.RowKit Go.Proofs.Ytfmjhckndlngaaa.Q Go.Proofs.YtfmjhckndlngaaaW.PrintWords Go.Proofs.YtfmjhckndlngaaaW.PrintLast
theorem sg_set {s : List Int} {i : Nat} (hi : i < s.length) (x : Int) : sg s.length (fun k => rd (s.set i x) (k : Int)) = sg s.length (fun k => rd s (k : Int)) + (x - rd s (i : Int)) :=
  sg_upd _ hi _ (by rw [rd_set_s _ hi]; omega) (fun k _ hk => by rw [rd_set_o _ hk])
theorem far_moved {l : List Int} {a : Int} {out : List Int} {f R p : Nat → Int} {t : Int} (hv : AV l a) (h : SP l a out f R p t) {i j : Nat} (hi : i < out.length) (hj : j < out.length) :
    sfR l a out ≤ sfR l a ((out.set i (rd out (i : Int) - 1)).set j (rd (out.set i (rd out (i : Int) - 1)) (j : Int) + 1)) := by
  have hlen := h.len
  have hb := fun k hk => h.bd hv k hk
  have hd : ∀ k : Nat, k < l.length → rd ((out.set i (rd out (i : Int) - 1)).set j (rd (out.set i (rd out (i : Int) - 1)) (j : Int) + 1)) (k : Int) - rd out (k : Int) = -1 ∨
      rd ((out.set i (rd out (i : Int) - 1)).set j (rd (out.set i (rd out (i : Int) - 1)) (j : Int) + 1)) (k : Int) - rd out (k : Int) = 0 ∨ rd ((out.set i (rd out (i : Int) - 1)).set j (rd (out.set i (rd out (i : Int) - 1)) (j : Int) + 1)) (k : Int) - rd out (k : Int) = 1 := by
    intro k hk
    by_cases e : k = j
    · subst e
      rw [rd_set_s _ (by simpa using hj)]
      by_cases e2 : k = i
      · subst e2; rw [rd_set_s _ hi]; omega
      · rw [rd_set_o _ e2]; omega
    · rw [rd_set_o _ e]
      by_cases e2 : k = i
      · subst e2; rw [rd_set_s _ hi]; omega
      · rw [rd_set_o _ e2]; omega
  have hs := sg_set (s := out.set i (rd out (i : Int) - 1)) (i := j) (by simpa using hj) (rd (out.set i (rd out (i : Int) - 1)) (j : Int) + 1)
  rw [List.length_set, sg_set hi] at hs
  have hl' : ((out.set i (rd out (i : Int) - 1)).set j (rd (out.set i (rd out (i : Int) - 1)) (j : Int) + 1)).length = l.length := by simp [hlen]
  generalize ((out.set i (rd out (i : Int) - 1)).set j (rd (out.set i (rd out (i : Int) - 1)) (j : Int) + 1)) = s at *
  have hfar : sfR l a out = (farN l a out 0 : Int) := by
    unfold sfR
    have hin : shIn 20000000 out := fun x hx => by
      obtain ⟨k, hk, rfl⟩ := mem_rd hx
      have := hb k (by omega)
      omega
    rw [if_pos ⟨hv, hlen, hin⟩]
  have hfar2 : sfR l a s = (farN l a s 0 : Int) := by
    unfold sfR
    have hin : shIn 20000000 s := fun x hx => by
      obtain ⟨k, hk, rfl⟩ := mem_rd hx
      have := hb k (by omega)
      have := hd k (by omega)
      omega
    rw [if_pos ⟨hv, hl', hin⟩]
  have hbest := h.best s hl' (fun k => rd s (k : Int) - rd out (k : Int)) (fun k hk => ⟨by omega, hd k hk⟩) (by
    have e1 : sg l.length (fun i => (rd s (i : Int) - rd out (i : Int)) + rd out (i : Int)) = sg l.length (fun i => rd s (i : Int)) := sg_congr _ (fun i _ => by omega)
    rw [sg_add] at e1
    rw [hlen] at hs
    omega)
  rw [hfar, hfar2]
  omega
theorem best_j1 (k : Nat) (hk : 100 < k) {l : List Int} {a : Int} {out : List Int} {f R p : Nat → Int} {t : Int} (hv : AV l a) (hSP : SP l a out f R p t) (l1 : List Int) (h1 : (l1.length : Int) ≤ 1048576) :
    laws_FnShareBest.j1 (k + 1) l1 l a out true out true false = some true := by
  have hn1 := hv.1.2.1
  have hl20 := hv.1.2.2.1
  have ha := hv.2
  have hol := hSP.len
  rw [laws_FnShareBest.j1, if_neg (by simp)]
  by_cases c : (out.length : Int) < 2
  · rw [if_pos c, if_pos (by omega)]
    have htot := hSP.total
    match out, hol, htot, c with
    | [y], _, htot, _ => simp [rd] at htot ⊢; exact htot
    | [], hol, _, _ => simp at hol; omega
    | _ :: _ :: _, _, _, c => simp at c; omega
  · rw [if_neg c, if_neg (by omega), sw64 (x := (out.length : Int) - 1) (by omega) (by omega), if_neg (by omega)]
    rw [Option.bind_some]
    rw [if_pos (by simp; omega), Option.bind_some, List.nil_append]
    have i0 : 0 ≤ (l1.length : Int) % (out.length : Int) := Int.emod_nonneg _ (by omega)
    have i1 : (l1.length : Int) % (out.length : Int) < (out.length : Int) := Int.emod_lt_of_pos _ (by omega)
    obtain ⟨i, hi⟩ : ∃ i : Nat, (l1.length : Int) % (out.length : Int) = i := ⟨((l1.length : Int) % (out.length : Int)).toNat, by omega⟩
    rw [hi] at i0 i1 ⊢
    have q0 : 0 ≤ (l1.length : Int) / 7 ∧ (l1.length : Int) / 7 ≤ 1048576 := by omega
    generalize (l1.length : Int) / 7 = q at q0
    rw [sw64 (x := q) (by omega) (by omega)]
    have e0 := Int.tmod_nonneg ((out.length : Int) - 1) q0.1
    have e1 := Int.tmod_lt_of_pos q (show 0 < (out.length : Int) - 1 by omega)
    generalize Int.tmod q ((out.length : Int) - 1) = r at e0 e1
    rw [sw64 (x := (i : Int) + 1) (by omega) (by omega), sw64 (x := (i : Int) + 1 + r) (by omega) (by omega)]
    have j0 := Int.tmod_nonneg (out.length : Int) (show 0 ≤ (i : Int) + 1 + r by omega)
    have j1 := Int.tmod_lt_of_pos ((i : Int) + 1 + r) (show 0 < (out.length : Int) by omega)
    obtain ⟨j, hj⟩ : ∃ j : Nat, Int.tmod ((i : Int) + 1 + r) (out.length : Int) = j := ⟨(Int.tmod ((i : Int) + 1 + r) (out.length : Int)).toNat, by omega⟩
    rw [hj] at j0 j1 ⊢
    have hb := fun k hk => hSP.bd hv k hk
    have hbi := hb i (by omega)
    have hbj := hb j (by omega)
    have hsetj : -10000002 ≤ rd (out.set i (rd out (i : Int) - 1)) (j : Int) ∧ rd (out.set i (rd out (i : Int) - 1)) (j : Int) ≤ 10000002 := by
      by_cases z : j = i
      · subst z; rw [rd_set_s _ (by omega)]; omega
      · rw [rd_set_o _ z]; omega
    rw [if_pos i0, if_pos i1, Option.bind_some, Int.toNat_natCast, sw64 (x := rd out (i : Int) - 1) (by omega) (by omega)]
    rw [if_pos j0, if_pos j1, Int.toNat_natCast, sw64 (x := rd (out.set i (rd out (i : Int) - 1)) (j : Int) + 1) (by omega) (by omega)]
    rw [impl_ShareFar_eq _ _ _ _ (by omega), Option.bind_some]
    rw [impl_ShareFar_eq _ _ _ _ (by omega), Option.bind_some]
    congr 1
    rw [decide_eq_true_eq]
    exact far_moved hv hSP (by omega) (by omega)
theorem FnShareBest : laws_FnShareBest.Pure := by
  intro l0 l1 _ _ hl0 _ _ _
  refine ⟨1003, ?_⟩
  unfold laws_FnShareBest.f
  split
  · simp [laws_FnShareBest.j0]
  · by_cases h1 : (l1.length : Int) > 1048576
    · rw [decide_eq_true h1]; simp [laws_FnShareBest.j0]
    · rw [decide_eq_false h1]
      simp only [laws_FnShareBest.j0]
      obtain ⟨l, a, hd, hl6⟩ := DrawShareOf_ok 1002 (by omega) hl0
      rw [hd, if_neg (by simp)]; simp only [Option.bind_some, impl_ShareOf.f]
      rw [spec_ShareOf_eq _ _ _ (by omega) (by omega)]
      simp only [Option.bind_some]
      have hlen : (shR l a).1.length ≤ l.length := by
        unfold shR
        split
        · show (pickN _ _ _).length ≤ _; rw [pickN_length]; simp [fl]
        · simp
      rw [if_neg (by simp), sameInts_self _ _ (by omega) (by omega)]
      simp only [Option.bind_some]
      rw [if_pos trivial]
      by_cases hv : AV l a
      · have e : shR l a = (pickN (a - (fl l a).sum).toNat (fl l a) (rs l a), true) := by unfold shR; rw [if_pos hv]
        obtain ⟨p, t, hSP⟩ := share_SP hv
        have hn1 := hv.1.2.1
        have ha := hv.2
        rw [e]
        generalize pickN (a - (fl l a).sum).toNat (fl l a) (rs l a) = out at *
        have hol := hSP.len
        exact best_j1 1001 (by omega) hv hSP l1 (by omega)
      · have e : shR l a = ([], false) := by unfold shR; rw [if_neg hv]
        rw [e, laws_FnShareBest.j1, if_pos (by simp), if_pos (by simp), sameInts_self _ _ (by simp) (by simp)]
        rfl
end Go.Proofs.Ytfmjhckndlngaaa.Pure
