/- Whole shares: their bounds, their sum, that none is better. -/
import Derived.Test.YtfmjhckndlngaaaShareP
namespace Go.Proofs.Ytfmjhckndlngaaa.Pure
open Go.RowKit Go.Proofs.Ytfmjhckndlngaaa.Q Go.Proofs.YtfmjhckndlngaaaW.PrintWords Go.Proofs.YtfmjhckndlngaaaW.PrintLast Go.Proofs.YtfmjhckndlngaaaW.PrintMore
set_option linter.unusedVariables false
theorem SP.total {l : List Int} {a : Int} {out : List Int} {f R p : Nat → Int} {t : Int} (h : SP l a out f R p t) : out.sum = a := by
  rw [sum_sg, h.len, sg_congr _ h.out_, sg_add, h.sum]; omega
/-- How far a share is from the exact one. -/
theorem SP.off {l : List Int} {a : Int} {out : List Int} {f R p : Nat → Int} {t : Int} (h : SP l a out f R p t) (i : Nat) (hi : i < l.length) (d : Int) : (rd out (i : Int) + d) * l.sum - a * rd l (i : Int) = (p i + d) * l.sum - R i := by
  rw [h.out_ i hi, ← h.fr i hi, Int.add_assoc, Int.add_mul]; omega
theorem SP.near {l : List Int} {a : Int} {out : List Int} {f R p : Nat → Int} {t : Int} (h : SP l a out f R p t) (i : Nat) (hi : i < l.length) : ((rd out (i : Int) * l.sum - a * rd l (i : Int)).natAbs : Int) < l.sum := by
  have := h.off i hi 0
  rw [Int.add_zero, Int.add_zero] at this
  rw [this]
  have hr := h.rb i hi
  rcases h.pb i hi with q | q
  · rw [q]; omega
  · have := h.p1 i hi q
    rw [q]; omega
/-- farN as a sum. -/
theorem farN_sg (l : List Int) (a : Int) (s : List Int) : ∀ i : Nat, (farN l a s i : Int) = sg s.length (fun j => ((rd s (j : Int) * l.sum - a * rd l ((i + j : Nat) : Int)).natAbs : Int)) := by
  induction s with
  | nil => intro i; simp [farN, sg]
  | cons y s ih =>
    intro i
    rw [List.length_cons, sg_front, rd_cons_zero]
    simp only [farN]
    rw [Int.natCast_add, ih (i + 1), Nat.add_zero]
    refine congrArg (_ + ·) (sg_congr _ (fun j _ => ?_))
    rw [rd_cons_succ, show i + 1 + j = i + (j + 1) by omega]
/-- One share more, one less: no pair of these brings the shares nearer. -/
theorem SP.best {l : List Int} {a : Int} {out : List Int} {f R p : Nat → Int} {t : Int} (h : SP l a out f R p t) (s : List Int) (hs : s.length = l.length) (d : Nat → Int) (hd : ∀ i : Nat, i < l.length → rd s (i : Int) = rd out (i : Int) + d i ∧ (d i = -1 ∨ d i = 0 ∨ d i = 1)) (h0 : sg l.length d = 0) :
    farN l a out 0 ≤ farN l a s 0 := by
  have e1 := farN_sg l a out 0
  have e2 := farN_sg l a s 0
  rw [h.len] at e1
  rw [hs] at e2
  have hle : sg l.length (fun j => ((rd out (j : Int) * l.sum - a * rd l ((0 + j : Nat) : Int)).natAbs : Int) + d j * (l.sum - 2 * t)) ≤ sg l.length (fun j => ((rd s (j : Int) * l.sum - a * rd l ((0 + j : Nat) : Int)).natAbs : Int)) := by
    refine sg_le _ (fun i hi => ?_)
    obtain ⟨d1, d2⟩ := hd i hi
    rw [Nat.zero_add, d1]
    have o0 := h.off i hi 0
    rw [Int.add_zero, Int.add_zero] at o0
    rw [h.off i hi (d i), o0]
    have hr := h.rb i hi
    have ht := h.tb
    have p1 := h.p1 i hi
    have p0 := h.p0 i hi
    rcases h.pb i hi with q | q
    · have := p0 q
      rw [q]
      rcases d2 with z | z | z <;> rw [z] <;> simp only [Int.zero_mul, Int.zero_add, Int.add_zero, Int.one_mul, Int.neg_mul] <;> omega
    · have := p1 q
      rw [q]
      rcases d2 with z | z | z <;> rw [z]
      · rw [show (1 : Int) + -1 = 0 by omega]; simp only [Int.zero_mul, Int.one_mul, Int.neg_mul]; omega
      · simp only [Int.zero_mul, Int.add_zero, Int.one_mul]; omega
      · rw [show (1 : Int) + 1 = 2 by omega]; simp only [Int.one_mul]; omega
  rw [sg_add, sg_mul, h0, Int.zero_mul, Int.add_zero, ← e1, ← e2] at hle
  omega
/-- Shares that are near the exact ones are the ones rounded down, or 1 more. -/
theorem SP.near_bits {l : List Int} {a : Int} {out : List Int} {f R p : Nat → Int} {t : Int} (h : SP l a out f R p t) (i : Nat) (hi : i < l.length) {y : Int} (hy : ((y * l.sum - a * rd l (i : Int)).natAbs : Int) < l.sum) : y = f i ∨ y = f i + 1 := by
  have hr := h.rb i hi
  have hf := h.fr i hi
  obtain ⟨z, rfl⟩ : ∃ z, y = f i + z := ⟨y - f i, by omega⟩
  rw [← hf, Int.add_mul] at hy
  rcases Int.lt_or_le z 0 with c | c
  · have : z * l.sum ≤ -1 * l.sum := Int.mul_le_mul_of_nonneg_right (by omega) (by omega)
    omega
  · rcases Int.lt_or_le 1 z with c2 | c2
    · have : 2 * l.sum ≤ z * l.sum := Int.mul_le_mul_of_nonneg_right (by omega) (by omega)
      omega
    · have : z = 0 ∨ z = 1 := by omega
      rcases this with rfl | rfl
      · left; omega
      · right; rfl
/-- The shares of an amount that is in range are themselves in range. -/
theorem SP.bd {l : List Int} {a : Int} {out : List Int} {f R p : Nat → Int} {t : Int} (hv : AV l a) (h : SP l a out f R p t) (i : Nat) (hi : i < l.length) : -10000001 ≤ rd out (i : Int) ∧ rd out (i : Int) ≤ 10000001 := by
  have hn := h.near i hi
  have hs := hv.1.sum
  have hr := hv.1.at_ (i : Int)
  have hle : rd l (i : Int) ≤ l.sum := by
    have e := sum_sg l
    have : sg l.length (fun k => if k = i then rd l (i : Int) else 0) ≤ sg l.length (fun k => rd l (k : Int)) := sg_le _ (fun k hk => by
      have := hv.1.at_ (k : Int)
      by_cases e : k = i
      · subst e; rw [if_pos rfl]; exact Int.le_refl _
      · rw [if_neg e]; exact this.1)
    have e2 : sg l.length (fun k => if k = i then rd l (i : Int) else 0) = sg l.length (fun _ => (0 : Int)) + rd l (i : Int) := sg_upd _ hi _ (by rw [if_pos rfl]; omega) (fun k _ hk => by rw [if_neg hk])
    have e3 : sg l.length (fun _ => (0 : Int)) = sg l.length (fun i => 0 * (0 : Int)) := sg_congr _ (fun _ _ => by simp)
    rw [sg_mul, Int.mul_zero] at e3
    omega
  have ha := hv.2
  constructor
  · rcases Int.lt_or_le (rd out (i : Int)) (-10000001) with q | q
    · have h1 : (rd out (i : Int) + 10000000) * l.sum ≤ -1 * l.sum := Int.mul_le_mul_of_nonneg_right (by omega) (by omega)
      have h2 : -10000000 * rd l (i : Int) ≤ a * rd l (i : Int) := Int.mul_le_mul_of_nonneg_right (by omega) hr.1
      rw [Int.add_mul] at h1
      omega
    · exact q
  · rcases Int.lt_or_le 10000001 (rd out (i : Int)) with q | q
    · have h1 : 1 * l.sum ≤ (rd out (i : Int) - 10000000) * l.sum := Int.mul_le_mul_of_nonneg_right (by omega) (by omega)
      have h2 : a * rd l (i : Int) ≤ 10000000 * rd l (i : Int) := Int.mul_le_mul_of_nonneg_right (by omega) hr.1
      rw [Int.sub_mul] at h1
      omega
    · exact q
end Go.Proofs.Ytfmjhckndlngaaa.Pure
