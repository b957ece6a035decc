/- The reference and the program ask the same of a polygon. -/
import Derived.Test.YtiieoannejlgiaaSpecValid
import Derived.Test.YtiieoannejlgiaaRingOf
namespace Go.Proofs.Ytiieoannejlgiaa.Ring
open Go.RowKit Go.Proofs.Ytiieoannejlgiaa.Q Go.Proofs.YtiieoannejlgiaaW.PrintWords Go.Proofs.YtiieoannejlgiaaW.PrintLast Go.Proofs.YtiieoannejlgiaaW.PrintMore
theorem onPt_self {p q : Pt} (hp : PVP p) (hq : PVP q) : onPt p q p = true := by
  unfold onPt Pure.onR
  refine decide_eq_true ⟨hp, hq, hp, ?_⟩
  unfold Pure.onP Pure.crs
  refine ⟨by simp, by omega, by omega, by omega, by omega⟩
theorem sameP_iff {p q : Pt} : sameP p q = true ↔ p.f0 = q.f0 ∧ p.f1 = q.f1 := by
  unfold sameP; rw [Bool.and_eq_true, beq_iff_eq, beq_iff_eq]
theorem sameP_comm (p q : Pt) : sameP p q = sameP q p := by
  rw [Bool.eq_iff_iff, sameP_iff, sameP_iff]
  exact ⟨fun h => ⟨h.1.symm, h.2.symm⟩, fun h => ⟨h.1.symm, h.2.symm⟩⟩
theorem meetPt_comm (a b c d : Pt) : meetPt a b c d = meetPt c d a b := by
  unfold meetPt
  rw [Bool.and_comm (decide (sgnP a b c * sgnP a b d < 0))]
  cases onPt a b c <;> cases onPt a b d <;> cases onPt c d a <;> cases onPt c d b <;> rfl
theorem meet_same {a b c d : Pt} (ha : PVP a) (hb : PVP b) (h : sameP c a = true) : meetPt a b c d = true := by
  have e := sameP_iff.1 h
  have : onPt a b c = true := by
    have := onPt_self ha hb
    unfold onPt at this ⊢
    rw [e.1, e.2]; exact this
  unfold meetPt; rw [this]; rfl
theorem mod_in {a n : Nat} (h : a < n) : a % n = a := Nat.mod_eq_of_lt h
theorem mod_out {a n : Nat} (h : n ≤ a) (h' : a < 2 * n) : a % n = a - n := by
  rw [Nat.mod_eq_sub_mod h, Nat.mod_eq_of_lt (by omega)]
theorem wrap_iff {i k n : Nat} (hk : k < n) (hik : i < k) : (k + 1) % n = i ↔ i = 0 ∧ k + 1 = n := by
  by_cases h : k + 1 < n
  · rw [mod_in h]; omega
  · rw [mod_out (by omega) (by omega)]; omega
theorem bad_next {l : List Pt} {i : Nat} (h : i + 1 < l.length) : badAt l i (i + 1) = (sameP (at_ l (i + 1)) (at_ l i) || sameP (nxt l (i + 1)) (at_ l (i + 1)) || foldAt l i) := by
  unfold badAt
  rw [if_pos rfl]
  have e : nxt l i = at_ l (i + 1) := by unfold nxt; rw [mod_in h]
  unfold foldAt
  rw [e, mod_in h, Bool.or_assoc (_ || _)]
theorem bad_wrap {l : List Pt} (h : 3 ≤ l.length) : badAt l 0 (l.length - 1) = foldAt l (l.length - 1) := by
  unfold badAt
  have e1 : (l.length - 1 + 1) % l.length = 0 := by rw [show l.length - 1 + 1 = l.length by omega, Nat.mod_self]
  rw [if_neg (by omega), if_pos e1]
  unfold foldAt
  rw [e1]
  have e : nxt l (l.length - 1) = at_ l 0 := by unfold nxt; rw [e1]
  rw [e]
theorem bad_far {l : List Pt} {i k : Nat} (hk : k < l.length) (h1 : i + 1 < k) (h2 : ¬ (i = 0 ∧ k + 1 = l.length)) : badAt l i k = meetPt (at_ l i) (nxt l i) (at_ l k) (nxt l k) := by
  unfold badAt
  rw [if_neg (by omega), if_neg (fun c => h2 ((wrap_iff hk (by omega)).1 c))]
theorem simple_iff {l : List Pt} : simpleB l = true ↔ (∀ i, i < l.length → ∀ t, t < l.length - 1 → dupAt l i t = false) ∧ ∀ i, i < l.length → foldAt l i = false ∧ ∀ t, t < l.length - 3 → meetAt l i t = false := by
  unfold simpleB
  simp only [Bool.and_eq_true, List.all_eq_true, List.mem_range, Bool.not_eq_true']
theorem pairs_simple {l : List Pt} (hv : Pure.cvB l = true) : pairsB l = simpleB l := by
  have hn := (Pure.cvB_iff.1 hv).1.1
  have pv : ∀ j, j < l.length → PVP (at_ l j) := fun j hj => pv_at hv hj
  have pn : ∀ j, j < l.length → PVP (nxt l j) := fun j hj => pv_at hv (Nat.mod_lt _ (by omega))
  rw [Bool.eq_iff_iff, simple_iff]
  unfold pairsB
  rw [decide_eq_true_eq]
  constructor
  · intro H
    have hnext : ∀ i, i + 1 < l.length → sameP (at_ l (i + 1)) (at_ l i) = false ∧ sameP (nxt l (i + 1)) (at_ l (i + 1)) = false ∧ foldAt l i = false := by
      intro i hi
      have := H i (by omega) (i + 1) hi (by omega)
      rw [bad_next hi, Bool.or_eq_false_iff, Bool.or_eq_false_iff] at this
      exact ⟨this.1.1, this.1.2, this.2⟩
    have hlast : sameP (at_ l 0) (at_ l (l.length - 1)) = false := by
      have := (hnext (l.length - 2) (by omega)).2.1
      rw [show l.length - 2 + 1 = l.length - 1 by omega] at this
      unfold nxt at this
      rw [show l.length - 1 + 1 = l.length by omega, Nat.mod_self] at this
      exact this
    have hdist : ∀ i k, i < k → k < l.length → sameP (at_ l k) (at_ l i) = false := by
      intro i k hik hk
      by_cases h1 : k = i + 1
      · subst h1; exact (hnext i hk).1
      · by_cases h2 : i = 0 ∧ k + 1 = l.length
        · obtain ⟨rfl, h2⟩ := h2
          rw [show k = l.length - 1 by omega, sameP_comm]; exact hlast
        · have := H i (by omega) k hk hik
          rw [bad_far hk (by omega) h2] at this
          apply Bool.eq_false_iff.2
          intro c
          rw [meet_same (pv i (by omega)) (pn i (by omega)) c] at this
          exact absurd this (by decide)
    refine ⟨fun i hi t ht => ?_, fun i hi => ⟨?_, fun t ht => ?_⟩⟩
    · unfold dupAt
      by_cases h : i + 1 + t < l.length
      · rw [mod_in h]; exact hdist i _ (by omega) h
      · rw [mod_out (by omega) (by omega), sameP_comm]; exact hdist _ i (by omega) hi
    · by_cases h : i + 1 < l.length
      · exact (hnext i h).2.2
      · have := H 0 (by omega) (l.length - 1) (by omega) (by omega)
        rw [bad_wrap hn] at this
        rw [show i = l.length - 1 by omega]; exact this
    · unfold meetAt
      by_cases h : i + 2 + t < l.length
      · rw [mod_in h]
        have := H i hi (i + 2 + t) h (by omega)
        rwa [bad_far h (by omega) (by omega)] at this
      · rw [mod_out (by omega) (by omega), meetPt_comm]
        have := H (i + 2 + t - l.length) (by omega) i hi (by omega)
        rwa [bad_far hi (by omega) (by omega)] at this
  · rintro ⟨hd, hf⟩ i hi k hk hik
    by_cases h1 : k = i + 1
    · subst h1
      rw [bad_next hk, (hf i hi).1]
      have d1 := hd i hi 0 (by omega)
      have d2 := hd (i + 1) hk 0 (by omega)
      unfold dupAt at d1 d2
      rw [Nat.add_zero, mod_in hk] at d1
      rw [Nat.add_zero] at d2
      unfold nxt
      rw [d1, d2]; rfl
    · by_cases h2 : i = 0 ∧ k + 1 = l.length
      · obtain ⟨rfl, h2⟩ := h2
        rw [show k = l.length - 1 by omega, bad_wrap hn]
        exact (hf _ (by omega)).1
      · rw [bad_far hk (by omega) h2]
        have := (hf i hi).2 (k - i - 2) (by omega)
        unfold meetAt at this
        rwa [show i + 2 + (k - i - 2) = k by omega, mod_in hk] at this
/-- What the reference answers. -/
theorem specValid (A0 : Option Addr) (c0 : Nat) (l0 : List Pt) (w : World) (hr0 : Kd.C k37 w A0 l0.length l0) (hc0 : l0.length ≤ c0) (hl : l0.length ≤ 1048576) :
    Calls Try.prog 24 #[.slice A0 l0.length c0] w fun e w' => e = .returned (.bool (okS l0)) ∧ Below w.heap.size w w' := by
  unfold okS
  cases h : Pure.cvB l0
  · rw [Bool.false_and]; exact specValid_no A0 c0 l0 w hr0 hc0 hl h
  · rw [Bool.true_and, ← pairs_simple h]; exact specValid_yes A0 c0 l0 w hr0 hc0 h
end Go.Proofs.Ytiieoannejlgiaa.Ring
