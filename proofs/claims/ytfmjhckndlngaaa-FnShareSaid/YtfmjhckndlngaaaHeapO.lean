/- The order of the heap, in plain Lean: what is served is the first of the greatest remainders. -/
import Derived.Test.YtfmjhckndlngaaaHeapS
namespace Go.Proofs.Ytfmjhckndlngaaa.HeapW
open Go.RowKit Go.Proofs.Ytfmjhckndlngaaa.Q Go.Proofs.YtfmjhckndlngaaaW.PrintWords Go.Proofs.YtfmjhckndlngaaaW.PrintLast Go.Proofs.YtfmjhckndlngaaaW.PrintMore
set_option linter.unusedVariables false
set_option linter.unusedSimpArgs false
theorem less_iff (x y : Rem) : lessR x y = true ↔ (y.2 < x.2 ∨ (x.2 = y.2 ∧ x.1 < y.1)) := by
  unfold lessR
  by_cases h : x.2 = y.2
  · rw [if_neg (by simp [h])]; simp only [decide_eq_true_eq]; omega
  · rw [if_pos h]; simp only [decide_eq_true_eq]; omega
theorem nless_iff (x y : Rem) : lessR x y = false ↔ ¬ (y.2 < x.2 ∨ (x.2 = y.2 ∧ x.1 < y.1)) := by
  rw [← less_iff]; simp
theorem nless_trans {x y z : Rem} (h1 : lessR x y = false) (h2 : lessR y z = false) : lessR x z = false := by
  rw [nless_iff] at *; omega
theorem nless_asymm {x y : Rem} (h : lessR x y = true) : lessR y x = false := by
  rw [less_iff] at h; rw [nless_iff]; omega
/-- From s on, no child goes ahead of its parent. -/
def Hp (a : Nat → Rem) (s n : Nat) : Prop := ∀ j, 1 ≤ j → j < n → s ≤ (j - 1) / 2 → lessR (a j) (a ((j - 1) / 2)) = false
def Hq (a : Nat → Rem) (s i n : Nat) : Prop :=
  (∀ j, 1 ≤ j → j < n → s ≤ (j - 1) / 2 → (j - 1) / 2 ≠ i → lessR (a j) (a ((j - 1) / 2)) = false) ∧
  (∀ j, 1 ≤ j → j < n → (j - 1) / 2 = i → 1 ≤ i → s ≤ (i - 1) / 2 → lessR (a j) (a ((i - 1) / 2)) = false)
theorem swp_l (a : Nat → Rem) (i j : Nat) : swpR a i j j = a i := by simp [swpR]
theorem swp_r (a : Nat → Rem) (i j : Nat) (h : i ≠ j) : swpR a i j i = a j := by simp [swpR, h]
theorem swp_o (a : Nat → Rem) (i j k : Nat) (h : k ≠ i) (h' : k ≠ j) : swpR a i j k = a k := by simp [swpR, h, h']
theorem dn_heap (f : Nat) : ∀ (a : Nat → Rem) (s i n : Nat), s ≤ i → n ≤ i + f → Hq a s i n → Hp (dnR f a i n) s n := by
  induction f with
  | zero =>
    intro a s i n hs hf h j h1 h2 h3
    exact h.1 j h1 h2 h3 (by omega)
  | succ f ih =>
    intro a s i n hs hf h
    simp only [dnR]
    by_cases c : n ≤ 2 * i + 1
    · rw [if_pos c]
      intro j h1 h2 h3
      exact h.1 j h1 h2 h3 (by omega)
    · rw [if_neg c]
      obtain ⟨j, hj⟩ : ∃ j, (if 2 * i + 2 < n ∧ lessR (a (2 * i + 2)) (a (2 * i + 1)) = true then 2 * i + 2 else 2 * i + 1) = j := ⟨_, rfl⟩
      have hjc : (j = 2 * i + 1 ∨ j = 2 * i + 2) ∧ j < n ∧ ∀ k, (k = 2 * i + 1 ∨ k = 2 * i + 2) → k < n → lessR (a k) (a j) = false := by
        by_cases e : 2 * i + 2 < n ∧ lessR (a (2 * i + 2)) (a (2 * i + 1)) = true
        · rw [if_pos e] at hj
          subst hj
          refine ⟨Or.inr rfl, e.1, ?_⟩
          rintro k (rfl | rfl) hk
          · exact nless_asymm e.2
          · rw [nless_iff]; omega
        · rw [if_neg e] at hj
          subst hj
          refine ⟨Or.inl rfl, by omega, ?_⟩
          rintro k (rfl | rfl) hk
          · rw [nless_iff]; omega
          · exact Bool.eq_false_iff.2 (fun q => e ⟨hk, q⟩)
      simp only [hj]
      obtain ⟨hj1, hjn, hmin⟩ := hjc
      have hji : (j - 1) / 2 = i := by omega
      by_cases e : lessR (a j) (a i) = true
      · rw [if_pos e]
        refine ih (swpR a i j) s j n (by omega) (by omega) ⟨?_, ?_⟩
        · intro k h1 h2 h3 h4
          by_cases ek : k = j
          · subst ek
            rw [hji, swp_l, swp_r _ _ _ (by omega)]
            exact nless_asymm e
          · by_cases ek2 : (k - 1) / 2 = i
            · rw [ek2, swp_o _ _ _ _ (by omega) ek, swp_r _ _ _ (by omega)]
              exact hmin k (by omega) h2
            · by_cases ek3 : k = i
              · subst ek3
                rw [swp_r _ _ _ (by omega), swp_o _ _ _ _ (by omega) (by omega)]
                exact h.2 j (by omega) hjn hji h1 h3
              · rw [swp_o _ _ _ _ ek3 ek, swp_o _ _ _ _ ek2 h4]
                exact h.1 k h1 h2 h3 ek2
        · intro k h1 h2 h3 h4 h5
          rw [hji, swp_r _ _ _ (by omega), swp_o _ _ _ _ (by omega) (by omega)]
          have := h.1 k h1 h2 (by omega) (by omega)
          rwa [h3] at this
      · rw [if_neg e]
        have e' : lessR (a j) (a i) = false := by simpa using e
        intro k h1 h2 h3
        by_cases ek : (k - 1) / 2 = i
        · rw [ek]
          exact nless_trans (hmin k (by omega) h2) e'
        · exact h.1 k h1 h2 h3 ek
/-- The same remainders in another order, of the first m. -/
def Pm (a a' : Nat → Rem) (m : Nat) : Prop := ∃ σ τ : Nat → Nat, (∀ k, σ (τ k) = k) ∧ (∀ k, τ (σ k) = k) ∧ (∀ k, m ≤ k → σ k = k) ∧ (∀ k, k < m → σ k < m) ∧ ∀ k, a' k = a (σ k)
theorem Pm.refl (a : Nat → Rem) (m : Nat) : Pm a a m := ⟨id, id, fun _ => rfl, fun _ => rfl, fun _ _ => rfl, fun _ h => h, fun _ => rfl⟩
theorem Pm.trans {a b c : Nat → Rem} {m : Nat} (h : Pm a b m) (h' : Pm b c m) : Pm a c m := by
  obtain ⟨s, t, h1, h2, h3, h4, h5⟩ := h
  obtain ⟨s', t', k1, k2, k3, k4, k5⟩ := h'
  exact ⟨fun k => s (s' k), fun k => t' (t k), fun k => by show s (s' (t' (t k))) = k; rw [k1, h1], fun k => by show t' (t (s (s' k))) = k; rw [h2, k2], fun k hk => by show s (s' k) = k; rw [k3 k hk, h3 k hk], fun k hk => h4 _ (k4 k hk), fun k => by rw [k5, h5]⟩
def swI (i j k : Nat) : Nat := if k = j then i else if k = i then j else k
theorem swI_swI (i j k : Nat) : swI i j (swI i j k) = k := by
  unfold swI
  by_cases h1 : k = j
  · subst h1; simp only [if_true]; by_cases h2 : i = k <;> simp [h2]
  · rw [if_neg h1]
    by_cases h2 : k = i
    · subst h2; simp
    · rw [if_neg h2, if_neg h1, if_neg h2]
theorem Pm.swp (a : Nat → Rem) {i j m : Nat} (hi : i < m) (hj : j < m) : Pm a (swpR a i j) m := by
  refine ⟨swI i j, swI i j, swI_swI i j, swI_swI i j, ?_, ?_, ?_⟩
  · intro k hk; unfold swI; rw [if_neg (by omega), if_neg (by omega)]
  · intro k hk; unfold swI; split <;> (try split) <;> omega
  · intro k; unfold swI swpR; split <;> (try split) <;> rfl
theorem dn_pm (f : Nat) : ∀ (a : Nat → Rem) (i n : Nat), i < n ∨ n ≤ 2 * i + 1 → Pm a (dnR f a i n) n := by
  induction f with
  | zero => intro a i n _; exact Pm.refl a n
  | succ f ih =>
    intro a i n hi
    simp only [dnR]
    by_cases c : n ≤ 2 * i + 1
    · rw [if_pos c]; exact Pm.refl a n
    · rw [if_neg c]
      obtain ⟨j, hj⟩ : ∃ j, (if 2 * i + 2 < n ∧ lessR (a (2 * i + 2)) (a (2 * i + 1)) = true then 2 * i + 2 else 2 * i + 1) = j := ⟨_, rfl⟩
      have hjn : j < n := by
        by_cases e : 2 * i + 2 < n ∧ lessR (a (2 * i + 2)) (a (2 * i + 1)) = true
        · rw [if_pos e] at hj; omega
        · rw [if_neg e] at hj; omega
      simp only [hj]
      by_cases e : lessR (a j) (a i) = true
      · rw [if_pos e]; exact (Pm.swp a (by omega) hjn).trans (ih _ j n (Or.inl hjn))
      · rw [if_neg e]; exact Pm.refl a n
theorem ini_ok (k : Nat) : ∀ (a : Nat → Rem) (n : Nat), k ≤ n → Hp a k n → Hp (iniR k a n) 0 n ∧ Pm a (iniR k a n) n := by
  induction k with
  | zero => intro a n _ h; exact ⟨h, Pm.refl a n⟩
  | succ k ih =>
    intro a n hk h
    simp only [iniR]
    have h1 := dn_heap n a k k n (Nat.le_refl _) (by omega) ⟨fun j h1 h2 h3 h4 => h j h1 h2 (by omega), fun j h1 h2 h3 h4 h5 => by omega⟩
    have h2 := ih (dnR n a k n) n (by omega) h1
    exact ⟨h2.1, (dn_pm n a k n (Or.inl (by omega))).trans h2.2⟩
theorem hp_top {a : Nat → Rem} {n : Nat} (h : Hp a 0 n) : ∀ k, k < n → lessR (a k) (a 0) = false := by
  intro k
  induction k using Nat.strongRecOn with
  | ind k ih =>
    intro hk
    by_cases h0 : k = 0
    · subst h0; rw [nless_iff]; omega
    · exact nless_trans (h k (by omega) hk (by omega)) (ih ((k - 1) / 2) (by omega) (by omega))
theorem top_heap {a : Nat → Rem} {m : Nat} (hm : 0 < m) (h : Hp a 0 m) : Hp (topR a m) 0 (m - 1) := by
  unfold topR
  refine dn_heap (m - 1) _ 0 0 (m - 1) (Nat.le_refl _) (by omega) ⟨fun j h1 h2 h3 h4 => ?_, fun j h1 h2 h3 h4 h5 => by omega⟩
  rw [swp_o _ _ _ _ (by omega) (by omega), swp_o _ _ _ _ (by omega) (by omega)]
  exact h j h1 (by omega) h3
/-- Of the remainders in a, the first m are still there (r tells them), the others are taken. -/
structure GoodH (R : Nat → Int) (a : Nat → Rem) (n : Nat) (r : List Int) (m : Nat) : Prop where
  ex : ∀ k, k < n → ∃ i, i < n ∧ a k = rem0 R i
  inj : ∀ j k, j < n → k < n → a j = a k → j = k
  sur : ∀ i, i < n → ∃ k, k < n ∧ a k = rem0 R i
  on : ∀ k i, k < m → a k = rem0 R i → rd r (i : Int) = R i
  off : ∀ k i, m ≤ k → k < n → a k = rem0 R i → rd r (i : Int) = -1
theorem GoodH.perm {R : Nat → Int} {a a' : Nat → Rem} {n : Nat} {r : List Int} {m : Nat} (h : GoodH R a n r m) (hm : m ≤ n) (hp : Pm a a' m) : GoodH R a' n r m := by
  obtain ⟨s, t, h1, h2, h3, h4, h5⟩ := hp
  have sn : ∀ k, k < n → s k < n := fun k hk => by
    by_cases c : k < m
    · have := h4 k c; omega
    · rw [h3 k (by omega)]; exact hk
  refine ⟨fun k hk => ?_, fun j k hj hk e => ?_, fun i hi => ?_, fun k i hk e => ?_, fun k i hk hk' e => ?_⟩
  · rw [h5]; exact h.ex _ (sn k hk)
  · rw [h5, h5] at e
    have := h.inj _ _ (sn j hj) (sn k hk) e
    rw [← h2 j, ← h2 k, this]
  · obtain ⟨k, hk, e⟩ := h.sur i hi
    refine ⟨t k, ?_, by rw [h5, h1]; exact e⟩
    by_cases c : t k < n
    · exact c
    · have := h3 (t k) (by omega)
      rw [h1] at this
      omega
  · rw [h5] at e; exact h.on _ i (h4 k hk) e
  · rw [h5, h3 k hk] at e; exact h.off k i hk hk' e
theorem rem0_inj {R : Nat → Int} {i j : Nat} (h : rem0 R i = rem0 R j) : i = j := by
  have := congrArg Prod.fst h
  simp only [rem0] at this
  omega
theorem rd_set_ne {r : List Int} {i j : Nat} (x : Int) (h : i ≠ j) : rd (r.set j x) (i : Int) = rd r (i : Int) := by
  unfold rd
  rw [Int.toNat_natCast, List.getD_eq_getElem?_getD, List.getD_eq_getElem?_getD, List.getElem?_set_ne (fun e => h e.symm)]
theorem rd_set_eq {r : List Int} {j : Nat} (x : Int) (h : j < r.length) : rd (r.set j x) (j : Int) = x := by
  unfold rd
  rw [Int.toNat_natCast, List.getD_eq_getElem?_getD, List.getElem?_set_self h]; rfl
theorem GoodH.pop {R : Nat → Int} {a : Nat → Rem} {n : Nat} {r : List Int} {m i0 : Nat} (h : GoodH R a n r m) (hm : m ≤ n) (h0 : 0 < m) (hr : r.length = n) (hi0 : i0 < n) (e0 : a 0 = rem0 R i0) :
    GoodH R (topR a m) n (r.set i0 (-1)) (m - 1) ∧ topR a m (m - 1) = rem0 R i0 := by
  have g1 := h.perm hm (Pm.swp a h0 (show m - 1 < m by omega))
  have e1 : swpR a 0 (m - 1) (m - 1) = rem0 R i0 := by rw [swp_l]; exact e0
  have g2 : GoodH R (swpR a 0 (m - 1)) n (r.set i0 (-1)) (m - 1) := by
    refine ⟨g1.ex, g1.inj, g1.sur, fun k i hk e => ?_, fun k i hk hk' e => ?_⟩
    · have hne : i ≠ i0 := fun q => by
        subst q
        have := g1.inj k (m - 1) (by omega) (by omega) (e.trans e1.symm)
        omega
      rw [rd_set_ne _ hne]
      exact g1.on k i (by omega) e
    · by_cases c : k = m - 1
      · subst c
        rw [e1] at e
        have := rem0_inj e
        subst this
        exact rd_set_eq _ (by omega)
      · have hne : i ≠ i0 := fun q => by
          subst q
          have := g1.inj k (m - 1) (by omega) (by omega) (e.trans e1.symm)
          omega
        rw [rd_set_ne _ hne]
        exact g1.off k i (by omega) hk' e
  have hp := dn_pm (m - 1) (swpR a 0 (m - 1)) 0 (m - 1) (by omega)
  refine ⟨g2.perm (by omega) hp, ?_⟩
  obtain ⟨s, t, h1, h2, h3, h4, h5⟩ := hp
  show dnR (m - 1) (swpR a 0 (m - 1)) 0 (m - 1) (m - 1) = _
  rw [h5, h3 (m - 1) (Nat.le_refl _)]
  exact e1
end Go.Proofs.Ytfmjhckndlngaaa.HeapW
