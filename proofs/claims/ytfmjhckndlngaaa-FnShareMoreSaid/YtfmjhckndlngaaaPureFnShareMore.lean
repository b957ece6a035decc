/- Drawn lengths: when the amount grows by the sum of the lengths, each share grows by its length. -/
import Derived.Test.YtfmjhckndlngaaaDrawShareOf
import Derived.Test.YtfmjhckndlngaaaShareB
import Derived.Test.YtfmjhckndlngaaaSumOf
import Derived.Test.YtfmjhckndlngaaaQ11
import Derived.Test.YtfmjhckndlngaaaQ23
namespace Go.Proofs.Ytfmjhckndlngaaa.Pure
open Go.RowKit Go.Proofs.Ytfmjhckndlngaaa.Q Go.Proofs.YtfmjhckndlngaaaW.PrintWords Go.Proofs.YtfmjhckndlngaaaW.PrintLast
theorem pick_more (m : Nat) : ∀ (out out2 r : List Int) (d : Nat → Int), out.length = r.length → out2.length = r.length → (∀ i : Nat, i < r.length → rd out2 (i : Int) = rd out (i : Int) + d i) →
    ∀ i : Nat, i < r.length → rd (pickN m out2 r) (i : Int) = rd (pickN m out r) (i : Int) + d i := by
  induction m with
  | zero => intro out out2 r d _ _ h i hi; exact h i hi
  | succ m ih =>
    intro out out2 r d h1 h2 h i hi
    simp only [pickN]
    have hlt := nextR_lt (r := r) (by omega)
    refine ih _ _ _ d (by simp [h1]) (by simp [h2]) (fun k hk => ?_) i (by simpa using hi)
    rw [List.length_set] at hk
    by_cases e : k = nextR r
    · rw [e, rd_set_s _ (by omega), rd_set_s _ (by omega), h _ hlt]; omega
    · rw [rd_set_o _ e, rd_set_o _ e]; exact h k hk
theorem shares_more {l : List Int} {a : Int} (h : AV l a) : ∀ i : Nat, i < l.length → rd (pickN ((a + l.sum) - (fl l (a + l.sum)).sum).toNat (fl l (a + l.sum)) (rs l (a + l.sum))) (i : Int) = rd (pickN (a - (fl l a).sum).toNat (fl l a) (rs l a)) (i : Int) + rd l (i : Int) := by
  have hs := h.1.sum
  have hfl : ∀ b, (fl l b).length = l.length := fun b => by simp [fl]
  have hrl : ∀ b, (rs l b).length = l.length := fun b => by simp [rs]
  have hf : ∀ b, ∀ i : Nat, i < l.length → rd (fl l b) (i : Int) = b * rd l (i : Int) / l.sum := fun b i hi => by unfold fl; rw [rd_map' _ _ _ hi]
  have hmul : ∀ x : Int, (a + l.sum) * x = a * x + x * l.sum := fun x => by rw [Int.add_mul, Int.mul_comm l.sum]
  have hr : rs l (a + l.sum) = rs l a := by
    unfold rs
    refine List.map_congr_left (fun x _ => ?_)
    rw [hmul, Int.add_mul_emod_self_right]
  have hd : ∀ i : Nat, i < l.length → rd (fl l (a + l.sum)) (i : Int) = rd (fl l a) (i : Int) + rd l (i : Int) := fun i hi => by
    rw [hf _ i hi, hf _ i hi, hmul, Int.add_mul_ediv_right _ _ (by omega)]
  have hsum : (fl l (a + l.sum)).sum = (fl l a).sum + l.sum := by
    rw [sum_sg (fl l (a + l.sum)), sum_sg (fl l a), hfl, hfl, sg_congr _ hd, sg_add, ← sum_sg]
  rw [hr, hsum, show a + l.sum - ((fl l a).sum + l.sum) = a - (fl l a).sum by omega]
  intro i hi
  exact pick_more _ (fl l a) (fl l (a + l.sum)) (rs l a) (fun i => rd l (i : Int)) (by rw [hfl, hrl]) (by rw [hfl, hrl]) (fun i hi => hd i (by rw [hrl] at hi; exact hi)) i (by rw [hrl]; exact hi)
theorem More_l0 {l : List Int} {a : Int} {out out2 : List Int} (hlen : out.length = l.length) (hlen2 : out2.length = l.length) (hl : l.length ≤ 20)
    (hd : ∀ i : Nat, i < l.length → rd out2 (i : Int) = wrap64 (rd out (i : Int) + rd l (i : Int))) (m : Nat) : ∀ (i k : Nat), m < k → i + m = l.length → laws_FnShareMore.l0 k l a out out2 true (i : Int) = some true := by
  induction m with
  | zero =>
    intro i k hk hi
    obtain ⟨k, rfl⟩ : ∃ m, k = m + 1 := ⟨k - 1, by omega⟩
    simp only [laws_FnShareMore.l0]
    rw [if_neg (by omega), if_pos trivial]
  | succ m ih =>
    intro i k hk hi
    obtain ⟨k, rfl⟩ : ∃ m, k = m + 1 := ⟨k - 1, by omega⟩
    simp only [laws_FnShareMore.l0]
    rw [if_pos (by omega), if_pos (by omega), if_pos (by omega), if_pos (by omega), if_pos (by omega), if_pos (hd i (by omega)), sw64 (x := (i : Int) + 1) (by omega) (by omega)]
    have := ih (i + 1) k (by omega) (by omega)
    rwa [Int.natCast_add] at this
theorem FnShareMore : laws_FnShareMore.Pure := by
  intro l0 _ _ hl0
  refine ⟨1003, ?_⟩
  unfold laws_FnShareMore.f
  split
  · rfl
  · obtain ⟨l, a, hd, hl6⟩ := DrawShareOf_ok 1003 (by omega) hl0
    rw [hd]; simp only [Option.bind_some, impl_ShareOf.f]
    rw [spec_ShareOf_eq _ _ _ (by omega) (by omega)]
    simp only [Option.bind_some]
    have hlen : (shR l a).1.length ≤ l.length := by
      unfold shR
      split
      · show (pickN _ _ _).length ≤ _; rw [pickN_length]; simp [fl]
      · simp
    rw [if_neg (by simp), sameInts_self _ _ (by omega) (by omega)]
    simp only [Option.bind_some]
    rw [if_pos trivial]
    simp only [laws_FnShareMore.j0]
    by_cases hv : AV l a
    · have e : shR l a = (pickN (a - (fl l a).sum).toNat (fl l a) (rs l a), true) := by unfold shR; rw [if_pos hv]
      obtain ⟨p, t, hSP⟩ := share_SP hv
      have hm := shares_more hv
      have hs := hv.1.sum
      have ha := hv.2
      rw [e, if_neg (by simp), sumOf_eq 1002 10000 l (by omega) (fun x hx => by have := hv.1.1 x hx; omega) (by omega) (by omega)]
      simp only [Option.bind_some, impl_ShareOf.f]
      rw [sw64 (x := a + l.sum) (by omega) (by omega)]
      generalize pickN (a - (fl l a).sum).toNat (fl l a) (rs l a) = out at *
      by_cases hv2 : AV l (a + l.sum)
      · have e2 : shR l (a + l.sum) = (pickN ((a + l.sum) - (fl l (a + l.sum)).sum).toNat (fl l (a + l.sum)) (rs l (a + l.sum)), true) := by unfold shR; rw [if_pos hv2]
        rw [e2]
        have hl2 : (pickN ((a + l.sum) - (fl l (a + l.sum)).sum).toNat (fl l (a + l.sum)) (rs l (a + l.sum))).length = l.length := by rw [pickN_length]; simp [fl]
        simp only []
        generalize pickN ((a + l.sum) - (fl l (a + l.sum)).sum).toNat (fl l (a + l.sum)) (rs l (a + l.sum)) = out2 at *
        exact More_l0 hSP.len hl2 (by omega) (fun i hi => by
          have b := hSP.bd hv i hi
          have b2 := hv.1.at_ (i : Int)
          rw [hm i hi, sw64 (by omega) (by omega)]) l.length 0 1002 (by omega) (by omega)
      · have e2 : shR l (a + l.sum) = ([], false) := by unfold shR; rw [if_neg hv2]
        rw [e2]
        simp only []
        rw [laws_FnShareMore.l0, if_neg (by simp), if_neg (by simp), sumOf_eq _ 10000 l (by omega) (fun x hx => by have := hv.1.1 x hx; omega) (by omega) (by omega)]
        show some (decide (wrap64 (a + l.sum) > 10000000)) = some true
        rw [sw64 (x := a + l.sum) (by omega) (by omega)]
        congr 1
        rw [decide_eq_true_eq]
        have : ¬ (-10000000 ≤ a + l.sum ∧ a + l.sum ≤ 10000000) := fun q => hv2 ⟨hv.1, q⟩
        omega
    · have e : shR l a = ([], false) := by unfold shR; rw [if_neg hv]
      rw [e, if_pos (by simp)]
      simp only []
      rw [if_pos (by simp), sameInts_self _ _ (by simp) (by simp)]
      rfl
end Go.Proofs.Ytfmjhckndlngaaa.Pure
