/- The reference places a point as the program does. -/
import Derived.Test.YtiieoannejlgiaaRingPlace
import Derived.Test.YtiieoannejlgiaaRingOf
import Derived.Test.YtiieoannejlgiaaSpecForms
import Derived.Test.YtiieoannejlgiaaPolyPts
import Derived.Test.YtiieoannejlgiaaQ20
import Derived.Test.YtiieoannejlgiaaQ30
import Derived.Test.YtiieoannejlgiaaQ31
namespace Go.Proofs.Ytiieoannejlgiaa.Pure
open Go.RowKit Go.Proofs.Ytiieoannejlgiaa.Q Go.Proofs.Ytiieoannejlgiaa.Ring Go.Proofs.YtiieoannejlgiaaW.PrintWords Go.Proofs.YtiieoannejlgiaaW.PrintLast
theorem pwP {x : Int} (h0 : 0 ≤ x) (h1 : x ≤ 4611686018427387904) : wrap64 x = x := by unfold wrap64; omega
theorem btw0 {u v s t : Int} (hv : 0 < v) (h0 : 0 ≤ s) (h1 : s ≤ v) (hu : 0 ≤ u) (h : u * s = v * t) : 0 ≤ t ∧ t ≤ u := by
  constructor
  · refine Int.not_lt.1 fun c => ?_
    have a := Int.mul_nonneg hu h0
    have b := Int.mul_neg_of_pos_of_neg hv c
    omega
  · refine Int.not_lt.1 fun c => ?_
    have a := Int.mul_nonneg hu (show 0 ≤ v - s by omega)
    have b := Int.mul_neg_of_pos_of_neg hv (show u - t < 0 by omega)
    have e1 : u * (v - s) = u * v - u * s := Int.mul_sub _ _ _
    have e2 : v * (u - t) = v * u - v * t := Int.mul_sub _ _ _
    have e3 : v * u = u * v := Int.mul_comm _ _
    omega
theorem btw {u v s t : Int} (hv : 0 < v) (h0 : 0 ≤ s) (h1 : s ≤ v) (h : u * s = v * t) : min 0 u ≤ t ∧ t ≤ max 0 u := by
  by_cases hu : 0 ≤ u
  · have := btw0 hv h0 h1 hu h; omega
  · have := btw0 (u := -u) (t := -t) hv h0 h1 (by omega) (by rw [Int.neg_mul, Int.mul_neg, h]); omega
theorem strad {a b c d e f : Int} (h : crs a b c d e f = 0) (hs : (b ≤ f ∧ f < d) ∨ (d ≤ f ∧ f < b)) : onP a b c d e f := by
  have h' := h
  unfold crs at h'
  have hm : min 0 (c - a) ≤ e - a ∧ e - a ≤ max 0 (c - a) := by
    rcases hs with hs | hs
    · exact btw (u := c - a) (v := d - b) (s := f - b) (t := e - a) (by omega) (by omega) (by omega) (by omega)
    · exact btw (u := c - a) (v := -(d - b)) (s := -(f - b)) (t := e - a) (by omega) (by omega) (by omega) (by rw [Int.mul_neg, Int.neg_mul]; omega)
  exact ⟨h, by omega, by omega, by omega, by omega⟩
theorem sgnP_zero {a b p : Pt} (ha : PVP a) (hb : PVP b) (hp : PVP p) (h : sgnP a b p = 0) : crs a.f0 a.f1 b.f0 b.f1 p.f0 p.f1 = 0 := by
  unfold sgnP at h
  rw [sideR_yes ha hb hp] at h
  exact sgn_zero.1 h
theorem off_sgn {a b p : Pt} (ha : PVP a) (hb : PVP b) (hp : PVP p) (ho : onPt a b p = false) (hs : (a.f1 ≤ p.f1 ∧ p.f1 < b.f1) ∨ (b.f1 ≤ p.f1 ∧ p.f1 < a.f1)) : sgnP a b p ≠ 0 := by
  intro h
  have := strad (sgnP_zero ha hb hp h) hs
  unfold onPt onR at ho
  rw [decide_eq_false_iff_not] at ho
  exact ho ⟨ha, hb, hp, this⟩
theorem dec_neg {l : List Pt} {p : Pt} {j : Nat} : decide (-(placeV l p j) = 1) = !decide (placeV l p j = 1) := by
  rcases placeV_bd l p j with h | h <;> rw [h] <;> rfl
theorem Odd_l0 {l : List Pt} {p : Pt} (hl : l.length ≤ 1048576) (pv : ∀ j, j < l.length → PVP (at_ l j)) (hp : PVP p) (off : ∀ j, j < l.length → onAt l p j = false) (n : Nat) :
    ∀ (j k : Nat), j + n = l.length → n < k → spec_l31Odd.l0 k l (decide (placeV l p j = 1)) (j : Int) p.f0 p.f1 = some (decide (placeV l p l.length = 1)) := by
  induction n with
  | zero =>
    intro j k hj hk
    obtain ⟨k, rfl⟩ : ∃ m, k = m + 1 := ⟨k - 1, by omega⟩
    rw [spec_l31Odd.l0, if_neg (by omega), show j = l.length by omega]
  | succ n ih =>
    intro j k hj hk
    obtain ⟨k, rfl⟩ : ∃ m, k = m + 1 := ⟨k - 1, by omega⟩
    have hw : wrap64 ((j : Int) + 1) = ((j + 1 : Nat) : Int) := by rw [pwP (by omega) (by omega)]; omega
    have hmod : Int.tmod ((j + 1 : Nat) : Int) (l.length : Int) = (((j + 1) % l.length : Nat) : Int) := by
      rw [Int.tmod_eq_emod_of_nonneg (by omega)]; simp
    have hlt : (j + 1) % l.length < l.length := Nat.mod_lt _ (by omega)
    have hjl : j < l.length := by omega
    rw [spec_l31Odd.l0, if_pos (by omega), if_pos (by omega), if_neg (by omega), hw, hmod, if_pos (by omega), if_pos (by omega)]
    simp only [at_rd]
    have hn : at_ l ((j + 1) % l.length) = nxt l j := rfl
    rw [hn]
    have pa := pv j hjl
    have pb : PVP (nxt l j) := pv _ hlt
    have ho : onPt (at_ l j) (nxt l j) p = false := off j hjl
    have go := ih (j + 1) k (by omega) (by omega)
    rw [placeV] at go
    have keep : flipB (at_ l j) (nxt l j) p = false → spec_l31Odd.l0 k l (decide (placeV l p j = 1)) ((j + 1 : Nat) : Int) p.f0 p.f1 = some (decide (placeV l p l.length = 1)) := fun h => by
      rw [h, if_neg (by decide)] at go; exact go
    have turn : flipB (at_ l j) (nxt l j) p = true → spec_l31Odd.l0 k l (!decide (placeV l p j = 1)) ((j + 1 : Nat) : Int) p.f0 p.f1 = some (decide (placeV l p l.length = 1)) := fun h => by
      rw [h, if_pos rfl, dec_neg] at go; exact go
    clear go ih
    by_cases hc : (decide ((at_ l j).f1 > p.f1) == decide ((nxt l j).f1 > p.f1)) = true
    · rw [if_pos hc]
      refine keep ?_
      unfold flipB
      rw [beq_iff_eq] at hc
      rw [show decide (p.f1 < (at_ l j).f1) = decide (p.f1 < (nxt l j).f1) from hc, bne_self_eq_false, Bool.false_and]
    · rw [if_neg hc, side_f pa pb hp]
      simp only [Option.bind_some]
      have hc2 : (decide (p.f1 < (at_ l j).f1) != decide (p.f1 < (nxt l j).f1)) = true := by
        rw [bne_iff_ne]; exact fun e => hc (beq_iff_eq.2 e)
      have hc3 := bne_iff_ne.1 hc2
      have hst : ((at_ l j).f1 ≤ p.f1 ∧ p.f1 < (nxt l j).f1) ∨ ((nxt l j).f1 ≤ p.f1 ∧ p.f1 < (at_ l j).f1) := by
        by_cases q1 : p.f1 < (at_ l j).f1
        · by_cases q2 : p.f1 < (nxt l j).f1
          · exact absurd (by rw [decide_eq_true q1, decide_eq_true q2]) hc3
          · right; omega
        · by_cases q2 : p.f1 < (nxt l j).f1
          · left; omega
          · exact absurd (by rw [decide_eq_false q1, decide_eq_false q2]) hc3
      have hz := off_sgn pa pb hp ho hst
      have hflip : flipB (at_ l j) (nxt l j) p = (decide ((at_ l j).f1 < (nxt l j).f1) == decide (0 < sgnP (at_ l j) (nxt l j) p)) := by
        unfold flipB; rw [hc2, Bool.true_and]
      by_cases c1 : (nxt l j).f1 > (at_ l j).f1
      · rw [if_pos c1]
        by_cases c2 : sgnP (at_ l j) (nxt l j) p > 0
        · rw [if_pos c2]
          exact turn (by rw [hflip, decide_eq_true (show (at_ l j).f1 < (nxt l j).f1 from c1), decide_eq_true (show 0 < sgnP (at_ l j) (nxt l j) p from c2)]; rfl)
        · rw [if_neg c2, if_neg (by omega)]
          exact keep (by rw [hflip, decide_eq_true (show (at_ l j).f1 < (nxt l j).f1 from c1), decide_eq_false (show ¬ 0 < sgnP (at_ l j) (nxt l j) p from c2)]; rfl)
      · rw [if_neg c1, if_pos (by omega)]
        by_cases c2 : sgnP (at_ l j) (nxt l j) p < 0
        · rw [if_pos c2]
          exact turn (by rw [hflip, decide_eq_false (show ¬ (at_ l j).f1 < (nxt l j).f1 from c1), decide_eq_false (show ¬ 0 < sgnP (at_ l j) (nxt l j) p by omega)]; rfl)
        · rw [if_neg c2]
          exact keep (by rw [hflip, decide_eq_false (show ¬ (at_ l j).f1 < (nxt l j).f1 from c1), decide_eq_true (show 0 < sgnP (at_ l j) (nxt l j) p by omega)]; rfl)
theorem Place_l0 {l : List Pt} {p : Pt} (hl : l.length ≤ 1048576) (pv : ∀ j, j < l.length → PVP (at_ l j)) (hp : PVP p) (n : Nat) :
    ∀ (j k : Nat), j + n = l.length → 2 * l.length + n + 2 < k → (∀ i, i < j → onAt l p i = false) → spec_PolyPlace.l0 k l (j : Int) p.f0 p.f1 = some (placeR l p, true) := by
  induction n with
  | zero =>
    intro j k hj hk off
    obtain ⟨k, rfl⟩ : ∃ m, k = m + 1 := ⟨k - 1, by omega⟩
    have offa : ∀ i, i < l.length → onAt l p i = false := fun i hi => off i (by omega)
    rw [spec_PolyPlace.l0, if_neg (by omega), spec_l31Odd.f]
    have := Odd_l0 hl pv hp offa l.length 0 k (by omega) (by omega)
    rw [show spec_l31Odd.l0 k l false 0 p.f0 p.f1 = some (decide (placeV l p l.length = 1)) from this]
    simp only [Option.bind_some]
    rw [placeR_off offa]
    rcases placeV_bd l p l.length with h | h
    · rw [h]; rfl
    · rw [h]; rfl
  | succ n ih =>
    intro j k hj hk off
    obtain ⟨k, rfl⟩ : ∃ m, k = m + 1 := ⟨k - 1, by omega⟩
    have hw : wrap64 ((j : Int) + 1) = ((j + 1 : Nat) : Int) := by rw [pwP (by omega) (by omega)]; omega
    have hmod : Int.tmod ((j + 1 : Nat) : Int) (l.length : Int) = (((j + 1) % l.length : Nat) : Int) := by
      rw [Int.tmod_eq_emod_of_nonneg (by omega)]; simp
    have hlt : (j + 1) % l.length < l.length := Nat.mod_lt _ (by omega)
    have hjl : j < l.length := by omega
    rw [spec_PolyPlace.l0, if_pos (by omega), if_pos (by omega), if_neg (by omega), hw, hmod, if_pos (by omega), if_pos (by omega)]
    simp only [at_rd]
    have hn : at_ l ((j + 1) % l.length) = nxt l j := rfl
    rw [hn, on_f (pv j hjl) (show PVP (nxt l j) from pv _ hlt) hp]
    simp only [Option.bind_some]
    by_cases c : onPt (at_ l j) (nxt l j) p = true
    · rw [if_pos c, placeR_on hjl c]
    · rw [if_neg c]
      refine ih (j + 1) k (by omega) (by omega) fun i hi => ?_
      rcases Nat.lt_or_eq_of_le (Nat.le_of_lt_succ hi) with h | rfl
      · exact off i h
      · exact Bool.eq_false_iff.2 c
theorem specPlace_eq {l : List Pt} {p : Pt} (h : l.length ≤ 1048576) (k : Nat) (hk : 3 * l.length + 5 < k) : spec_PolyPlace.f k l p.f0 p.f1 = some (if okS l && ptB p then (placeR l p, true) else (0, false)) := by
  obtain ⟨k, rfl⟩ : ∃ m, k = m + 1 := ⟨k - 1, by omega⟩
  unfold spec_PolyPlace.f
  rw [show spec_PolyValid.f l = some (okS l) from if_pos h, spec_PtValid_eq]
  simp only [Option.bind_some, spec_PolyPlace.j0]
  cases c : okS l
  · rw [if_neg (by decide), if_pos trivial]; rfl
  · rw [if_pos rfl, Bool.true_and]
    cases q : ptB p
    · rw [if_pos (by decide)]; rfl
    · rw [if_neg (by decide), if_pos rfl]
      have hc : cvB l = true := by unfold okS at c; exact ((Bool.and_eq_true _ _).mp c).1
      have hq := ptB_iff.1 q
      exact Place_l0 h (fun j hj => pv_at hc hj) (show PVP p from PV_iff.2 ⟨hq.1.1, hq.1.2, hq.2.1, hq.2.2⟩) l.length 0 k (by omega) (by omega) (fun i hi => absurd hi (Nat.not_lt_zero _))
end Go.Proofs.Ytiieoannejlgiaa.Pure
