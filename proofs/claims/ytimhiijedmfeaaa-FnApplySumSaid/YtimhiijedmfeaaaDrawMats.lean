/- The draw of a matrix and a list never fails. -/
import Derived.Test.YtimhiijedmfeaaaReader
import Derived.Test.YtimhiijedmfeaaaMats
import Derived.Test.YtimhiijedmfeaaaQ16
import Derived.Test.YtimhiijedmfeaaaQ17
namespace Go.Proofs.Ytimhiijedmfeaaa.Pure
open Go.RowKit Go.Proofs.Ytimhiijedmfeaaa.Q Go.Proofs.YtimhiijedmfeaaaW.PrintWords Go.Proofs.YtimhiijedmfeaaaW.PrintLast Go.Proofs.YtimhiijedmfeaaaW.PrintMore
theorem l91Mat_l1 {b : List Int} (hb : Bts b) {n : Int} (hn : 1 ≤ n ∧ n ≤ 6) {x5 : List (List Int)} (h5 : x5.length ≤ 10) (x6 : Int) (c : Nat) : ∀ (x7 : List Int) (x8 p : Int) (k : Nat), n - x8 = c → (x7.length : Int) = x8 → 0 ≤ p → p + c ≤ 1000 →
    ∃ r, (r.length : Int) = n ∧ spec_l91Mat.l1 (k + c + 1) n x5 x6 x7 x8 b p = spec_l91Mat.l0 k n (x5 ++ [r]) (wrap64 (x6 + 1)) b (p + c) := by
  induction c with
  | zero =>
    intro x7 x8 p k h hl hp hp'
    refine ⟨x7, by omega, ?_⟩
    rw [Nat.add_zero, spec_l91Mat.l1, if_neg (by omega), if_pos (by omega)]
    simp
  | succ c ih =>
    intro x7 x8 p k h hl hp hp'
    rw [← Nat.add_assoc, spec_l91Mat.l1, if_pos (by omega)]
    obtain ⟨v1, e1, v10, v11⟩ := pick_ok (k + c) hb (p := p) (n := 9) (by omega) (by omega)
    simp only [e1, Option.bind_some]
    rw [if_pos (by omega), tw64 (x := x8 + 1) (by omega) (by omega)]
    obtain ⟨r, hr, e⟩ := ih (x7 ++ [wrap64 (v1 - 4)]) (x8 + 1) (p + 1) k (by omega) (by simp; omega) (by omega) (by omega)
    refine ⟨r, hr, ?_⟩
    rw [e]
    congr 1; omega
theorem tot_append (a b : List (List Int)) : tot (a ++ b) = tot a + tot b := by simp [tot]
theorem tot_set0 (x : List (List Int)) (r : List Int) (h : 0 < x.length) (hr : r.length ≤ (rd_L1 x 0).length + 1) : tot (x.set 0 r) ≤ tot x + 1 := by
  cases x with
  | nil => simp at h
  | cons y x =>
    have e : rd_L1 (y :: x) 0 = y := by simp [rd_L1]
    rw [e] at hr
    rw [List.set_cons_zero, tot_cons, tot_cons]; omega
theorem l91Mat_l0 {b : List Int} (hb : Bts b) {n : Int} (hn : 1 ≤ n ∧ n ≤ 6) (d : Nat) : ∀ (x5 : List (List Int)) (x6 p : Int) (k : Nat), n - x6 = d → (x5.length : Int) = x6 → 0 ≤ p → p + 7 * d ≤ 800 → 10 * d + 10 < k → tot x5 ≤ 7 * x5.length → (0 < x5.length → ((rd_L1 x5 0).length : Int) = n) →
    ∃ x q, spec_l91Mat.l0 k n x5 x6 b p = some (x, q) ∧ p ≤ q ∧ q ≤ p + 7 * d + 3 ∧ tot x ≤ 50 := by
  induction d with
  | zero =>
    intro x5 x6 p k h hl hp hp' hk ht h0
    obtain ⟨k, rfl⟩ : ∃ m, k = m + 2 := ⟨k - 2, by omega⟩
    have hx : 0 < x5.length := by omega
    have hr := h0 hx
    have ht' : tot x5 ≤ 42 := by omega
    rw [spec_l91Mat.l0, if_neg (by omega)]
    obtain ⟨v1, e1, v10, v11⟩ := pick_ok k hb (p := p) (n := 40) (by omega) (by omega)
    obtain ⟨v2, e2, v20, v21⟩ := pick_ok k hb (p := p + 1) (n := 3) (by omega) (by omega)
    simp only [e1, e2, Option.bind_some]
    by_cases c0 : v1 = 0
    · rw [if_pos c0, if_pos (by omega), if_pos v20, if_pos (by simp; omega), if_pos (by omega)]
      refine ⟨_, _, rfl, by omega, by omega, ?_⟩
      have := tot_set0 x5 ((rd_L1 x5 0).set (0 : Int).toNat (rd [1000, 1001, (-1001)] v2)) hx (by simp)
      exact Nat.le_trans this (by omega)
    · rw [if_neg c0]
      by_cases c1 : v1 = 1
      · rw [if_pos c1, if_pos (by omega), if_pos (by omega)]
        refine ⟨_, _, rfl, by omega, by omega, ?_⟩
        have := tot_set0 x5 ((rd_L1 x5 0) ++ [1]) hx (by simp)
        exact Nat.le_trans this (by omega)
      · rw [if_neg c1]
        by_cases c2 : v1 = 2
        · rw [if_pos c2]; exact ⟨_, _, rfl, by omega, by omega, by simp [tot]⟩
        · rw [if_neg c2]; exact ⟨_, _, rfl, by omega, by omega, by omega⟩
  | succ d ih =>
    intro x5 x6 p k h hl hp hp' hk ht h0
    obtain ⟨N, hN⟩ : ∃ N : Nat, n = N := ⟨n.toNat, by omega⟩
    obtain ⟨k, rfl⟩ : ∃ m, k = (m + N + 1) + 1 := ⟨k - N - 2, by omega⟩
    rw [spec_l91Mat.l0, if_pos (by omega)]
    obtain ⟨r, hr, e⟩ := l91Mat_l1 hb hn (x5 := x5) (by omega) x6 N [] 0 p k (by omega) rfl hp (by omega)
    rw [e, tw64 (x := x6 + 1) (by omega) (by omega)]
    have hfirst : ((rd_L1 (x5 ++ [r]) 0).length : Int) = n := by
      cases x5 with
      | nil => simp [rd_L1]; exact hr
      | cons y x5 =>
        have := h0 (by simp)
        simp [rd_L1] at this ⊢
        exact this
    obtain ⟨x, q, e', q0, q1, hx⟩ := ih (x5 ++ [r]) (x6 + 1) (p + N) k (by omega) (by simp; omega) (by omega) (by omega) (by omega) (by rw [tot_append]; simp [tot]; simp [tot] at ht; omega) (fun _ => hfirst)
    exact ⟨x, q, e', by omega, by omega, hx⟩
theorem DrawMatApply_l0 {b : List Int} (hb : Bts b) {n : Int} (hn : 1 ≤ n ∧ n ≤ 6) {m : List (List Int)} (d : Nat) : ∀ (x7 : List Int) (x8 p : Int) (k : Nat), n - x8 = d → (x7.length : Int) = x8 → 0 ≤ p → p + d ≤ 900 → d + 5 < k →
    ∃ v, spec_DrawMatApply.l0 k n m x7 x8 b p = some (m, v) ∧ v.length ≤ 6 := by
  induction d with
  | zero =>
    intro x7 x8 p k h hl hp hp' hk
    obtain ⟨k, rfl⟩ : ∃ m, k = m + 2 := ⟨k - 2, by omega⟩
    rw [spec_DrawMatApply.l0, if_neg (by omega)]
    obtain ⟨v1, e1, v10, v11⟩ := pick_ok k hb (p := p) (n := 24) (by omega) (by omega)
    simp only [e1, Option.bind_some]
    by_cases c0 : v1 = 0
    · rw [if_pos c0, if_pos (by omega)]; exact ⟨_, rfl, by simp; omega⟩
    · rw [if_neg c0]
      by_cases c1 : v1 = 1
      · rw [if_pos c1, if_pos (by omega)]; exact ⟨_, rfl, by simp; omega⟩
      · rw [if_neg c1]; exact ⟨_, rfl, by omega⟩
  | succ d ih =>
    intro x7 x8 p k h hl hp hp' hk
    obtain ⟨k, rfl⟩ : ∃ m, k = m + 2 := ⟨k - 2, by omega⟩
    rw [spec_DrawMatApply.l0, if_pos (by omega)]
    obtain ⟨v1, e1, v10, v11⟩ := pick_ok k hb (p := p) (n := 21) (by omega) (by omega)
    simp only [e1, Option.bind_some]
    rw [if_pos (by omega), tw64 (x := x8 + 1) (by omega) (by omega)]
    exact ih (x7 ++ [wrap64 (v1 - 10)]) (x8 + 1) (p + 1) (k + 1) (by omega) (by simp; omega) (by omega) (by omega) (by omega)
theorem DrawMatApply_ok (k : Nat) (hk : 200 < k) {bs : List Int} (hbs : ∀ x ∈ bs, (Lit.int .u8 x).wf = true) : ∃ m v, spec_DrawMatApply.f k bs = some (m, v) ∧ tot m ≤ 50 ∧ v.length ≤ 6 := by
  obtain ⟨k, rfl⟩ : ∃ j, k = j + 1 := ⟨k - 1, by omega⟩
  unfold spec_DrawMatApply.f
  obtain ⟨b, h0, hb⟩ := open_ok hbs
  rw [h0]; simp only [Option.bind_some]
  obtain ⟨v1, e1, v10, v11⟩ := pick_ok k hb (p := 0) (n := 4) (by omega) (by omega)
  simp only [e1, Option.bind_some]
  rw [tw64 (x := 1 + v1) (by omega) (by omega)]
  obtain ⟨x, q, e, q0, q1, hx⟩ := l91Mat_l0 hb (n := 1 + v1) (by omega) (1 + v1).toNat [] 0 (0 + 1) (k + 1) (by omega) rfl (by omega) (by omega) (by omega) (by simp [tot]) (by simp)
  unfold spec_l91Mat.f
  rw [e]; simp only [Option.bind_some]
  obtain ⟨v, e', hv⟩ := DrawMatApply_l0 hb (n := 1 + v1) (by omega) (m := x) (1 + v1).toNat [] 0 q (k + 1) (by omega) rfl (by omega) (by omega) (by omega)
  rw [e']
  exact ⟨_, _, rfl, hx, hv⟩
end Go.Proofs.Ytimhiijedmfeaaa.Pure
