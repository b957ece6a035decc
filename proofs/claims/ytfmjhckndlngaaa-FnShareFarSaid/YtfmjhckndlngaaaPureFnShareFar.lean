/- How far drawn shares are from the exact ones: the program answers as the reference does; 0 just where all are exact; and one share more by 1 changes it by at most the sum of the lengths. -/
import Derived.Test.YtfmjhckndlngaaaDrawShares
import Derived.Test.YtfmjhckndlngaaaQ16
import Derived.Test.YtfmjhckndlngaaaQ17
import Derived.Test.YtfmjhckndlngaaaQ3
namespace Go.Proofs.Ytfmjhckndlngaaa.Pure
open Go.RowKit Go.Proofs.Ytfmjhckndlngaaa.Q Go.Proofs.YtfmjhckndlngaaaW.PrintWords Go.Proofs.YtfmjhckndlngaaaW.PrintLast

theorem sumOf_l0 {B : Nat} (suf : List Int) : ∀ (pre : List Int) (s : Int) (k : Nat), suf.length < k → pre.length + suf.length < 4611686018427387904 → (∀ x ∈ suf, -(B : Int) ≤ x ∧ x ≤ B) →
    -4611686018427387904 ≤ s - ((suf.length * B : Nat) : Int) → s + ((suf.length * B : Nat) : Int) ≤ 4611686018427387904 → laws_sumOf.l0 k (pre ++ suf) s (pre.length : Int) = some (s + suf.sum) := by
  induction suf with
  | nil =>
    intro pre s k hk _ _ _ _
    obtain ⟨k, rfl⟩ : ∃ m, k = m + 1 := ⟨k - 1, by omega⟩
    simp [laws_sumOf.l0]
  | cons y suf ih =>
    intro pre s k hk hl hB h0 h1
    simp only [List.length_cons] at hk hl
    obtain ⟨k, rfl⟩ : ∃ m, k = m + 1 := ⟨k - 1, by omega⟩
    have hy := hB y List.mem_cons_self
    rw [List.length_cons, Nat.succ_mul] at h0 h1
    simp only [laws_sumOf.l0]
    rw [if_pos (len_mid _ _ _), if_pos (by omega), rd_mid, next_mid pre y (by omega), app_mid pre suf y, sw64 (x := s + y) (by omega) (by omega)]
    rw [ih (pre ++ [y]) (s + y) k (by omega) (by simp; omega) (fun x hx => hB x (List.mem_cons_of_mem _ hx)) (by omega) (by omega), List.sum_cons]
    congr 1; omega
theorem sumOf_eq (k : Nat) (B : Nat) (l : List Int) (hk : l.length < k) (hB : ∀ x ∈ l, -(B : Int) ≤ x ∧ x ≤ B) (hl : l.length ≤ 1000000) (hs : l.length * B ≤ 4611686018427387904) : laws_sumOf.f k l = some l.sum := by
  unfold laws_sumOf.f
  have := sumOf_l0 (B := B) l [] 0 k hk (by simp; omega) hB (by omega) (by omega)
  simpa using this

/-- Whether all shares (from index i on) are exact. -/
def exB (l : List Int) (a : Int) : List Int → Nat → Bool
  | [], _ => true
  | y :: s, i => decide (y * l.sum = a * rd l i) && exB l a s (i + 1)
theorem farN_zero (l : List Int) (a : Int) (s : List Int) : ∀ i, (farN l a s i = 0) ↔ exB l a s i = true := by
  induction s with
  | nil => intro i; simp [farN, exB]
  | cons y s ih =>
    intro i
    have := ih (i + 1)
    simp only [farN, exB, Bool.and_eq_true, decide_eq_true_eq]
    rw [← this]
    omega
theorem farN_set (l : List Int) (a : Int) (hs : 0 < l.sum) (s : List Int) : ∀ (i j : Nat), j < s.length → (farN l a (s.set j (rd s (j : Int) + 1)) i : Int) - farN l a s i ≤ l.sum ∧ -l.sum ≤ (farN l a (s.set j (rd s (j : Int) + 1)) i : Int) - farN l a s i := by
  induction s with
  | nil => intro i j h; simp at h
  | cons y s ih =>
    intro i j h
    cases j with
    | zero =>
      have e : rd (y :: s) ((0 : Nat) : Int) = y := by simp [rd]
      rw [e]
      simp only [List.set_cons_zero, farN]
      rw [Int.add_mul]
      omega
    | succ j =>
      have e : rd (y :: s) ((j + 1 : Nat) : Int) = rd s (j : Int) := by
        unfold rd
        rw [show (((j + 1 : Nat) : Int)).toNat = j + 1 by omega, show ((j : Nat) : Int).toNat = j by omega]; simp
      rw [e]
      simp only [List.set_cons_succ, farN]
      have := ih (i + 1) j (by simpa using h)
      omega
theorem farN_bd {l : List Int} {a : Int} (h : AV l a) (s : List Int) : ∀ i, shIn 20000000 s → (farN l a s i : Int) ≤ (s.length : Int) * 4611686018427 := by
  induction s with
  | nil => intro i _; simp [farN]
  | cons y s ih =>
    intro i hi
    have h1 := ih (i + 1) (fun x hx => hi x (List.mem_cons_of_mem _ hx))
    have h2 := diff_bd h (hi y List.mem_cons_self) (i : Int)
    simp only [farN, List.length_cons]
    rw [Int.natCast_add, Int.natCast_add, Int.add_mul]
    omega

theorem FnShareFar_l0 {l : List Int} {a : Int} (h : AV l a) {s : List Int} (t i d : Int) (suf : List Int) : ∀ (pre : List Int) (bb : Bool) (k : Nat), suf.length < k → s = pre ++ suf → s.length = l.length → shIn 20000000 s →
    laws_FnShareFar.l0 k l a s t l.sum i d bb (pre.length : Int) = laws_FnShareFar.l0 1 l a s t l.sum i d (bb && exB l a suf pre.length) (s.length : Int) := by
  have h20 := h.1.2.2.1
  induction suf with
  | nil =>
    intro pre bb k hk hs hsl hi
    obtain ⟨k, rfl⟩ : ∃ m, k = m + 1 := ⟨k - 1, by omega⟩
    rw [List.append_nil] at hs
    subst hs
    simp only [exB, Bool.and_true]
    have hnn : ¬ ((s.length : Int) < (s.length : Int)) := by omega
    conv => lhs; rw [laws_FnShareFar.l0, if_neg hnn]
    conv => rhs; rw [laws_FnShareFar.l0, if_neg hnn]
  | cons y suf ih =>
    intro pre bb k hk hs hsl hi
    simp only [List.length_cons] at hk
    obtain ⟨k, rfl⟩ : ∃ m, k = m + 1 := ⟨k - 1, by omega⟩
    have hsl2 : pre.length + suf.length + 1 = l.length := by rw [← hsl, hs]; simp; omega
    have hy : rd s (pre.length : Int) = y := by rw [hs]; exact rd_mid pre suf y
    have hyb := hi y (by rw [hs]; simp)
    have hn : wrap64 ((pre.length : Int) + 1) = ((pre ++ [y]).length : Int) := next_mid pre y (by omega)
    rw [laws_FnShareFar.l0, if_pos (by omega)]
    have hsum := h.1.sum
    have hr := h.1.at_ (pre.length : Int)
    have b1 := mulb (x := y) (y := l.sum) (m := 20000000) (n := 200000) (by omega) (by omega) (by omega) (by omega)
    have b2 := mulb (x := a) (y := rd l (pre.length : Int)) (m := 10000000) (n := 10000) (by have := h.2; omega) (by omega) (by omega) (by omega)
    cases bb with
    | true =>
      rw [if_pos rfl, if_pos (by omega), if_pos (by omega), hn, hy, sw64 (x := y * l.sum) (by omega) (by omega), sw64 (x := a * rd l (pre.length : Int)) (by omega) (by omega)]
      rw [ih (pre ++ [y]) _ k (by omega) (by rw [hs]; simp) hsl hi]
      simp only [exB, List.length_append, List.length_singleton, Bool.true_and]
      congr 2
    | false =>
      rw [if_neg (by simp), hn, ih (pre ++ [y]) _ k (by omega) (by rw [hs]; simp) hsl hi]
      simp

theorem FnShareFar : laws_FnShareFar.Pure := by
  intro l0 l1 _ _ hl0 _ _ _
  refine ⟨1003, ?_⟩
  unfold laws_FnShareFar.f
  split
  · simp [laws_FnShareFar.j0]
  · rename_i _
    by_cases h1 : (l1.length : Int) > 1048576
    · rw [decide_eq_true h1]; simp [laws_FnShareFar.j0]
    · rw [decide_eq_false h1]
      simp only [laws_FnShareFar.j0, spec_DrawShareFar.f]
      obtain ⟨l, a, s, hd, hl6, hsl⟩ := DrawShareOk_ok 1002 (by omega) hl0
      rw [hd]; simp only [Option.bind_some]
      rw [if_neg (by simp), impl_ShareFar_eq _ _ _ _ (by omega), spec_ShareFar_eq _ _ _ _ (by omega) (by omega)]
      simp only [Option.bind_some]
      rw [if_pos trivial]
      simp only [laws_FnShareFar.j1]
      by_cases hR : AV l a ∧ s.length = l.length ∧ shIn 20000000 s
      · have hv : sfR l a s = (farN l a s 0 : Int) := by unfold sfR; rw [if_pos hR]
        obtain ⟨h, _, hi⟩ := hR
        have hl1 := h.1.2.1
        have hsum := h.1.sum
        rw [hv, if_neg (by simp), sumOf_eq _ 10000 l (by omega) (fun x hx => by have := h.1.1 x hx; omega) (by omega) (by omega)]
        simp only [Option.bind_some, List.nil_append, List.length_nil]
        rw [if_neg (by omega), if_pos (by omega)]
        have i0 : 0 ≤ (l1.length : Int) % (s.length : Int) := Int.emod_nonneg _ (by omega)
        have i1 : (l1.length : Int) % (s.length : Int) < (s.length : Int) := Int.emod_lt_of_pos _ (by omega)
        rw [if_pos i0, if_pos i1]
        obtain ⟨j, hj⟩ : ∃ j : Nat, (l1.length : Int) % (s.length : Int) = j := ⟨((l1.length : Int) % (s.length : Int)).toNat, by omega⟩
        rw [hj, Int.toNat_natCast]
        have hjl : j < s.length := by omega
        have hjm : -20000000 ≤ rd s (j : Int) ∧ rd s (j : Int) ≤ 20000000 := by
          have e : rd s (j : Int) = s[j] := by simp [rd, hjl]
          rw [e]; exact hi _ (List.getElem_mem hjl)
        rw [sw64 (x := rd s (j : Int) + 1) (by omega) (by omega), impl_ShareFar_eq _ _ _ _ (by omega)]
        simp only [Option.bind_some]
        have key := FnShareFar_l0 h (s := s) (farN l a s 0 : Int) (j : Int) (wrap64 (sfR l a (s.set j (rd s (j : Int) + 1)) - (farN l a s 0 : Int))) s [] true 1001 (by omega) rfl hsl hi
        simp only [List.length_nil, Bool.true_and] at key
        rw [show ((0 : Nat) : Int) = 0 from rfl] at key
        rw [key, laws_FnShareFar.l0, if_neg (by omega)]
        have hz : (((farN l a s 0 : Nat) : Int) == 0) = exB l a s 0 := by
          rw [Bool.eq_iff_iff, beq_iff_eq, ← farN_zero]; omega
        rw [hz, if_pos (by simp)]
        have hb0 := farN_bd h s 0 hi
        by_cases hs' : shIn 20000000 (s.set j (rd s (j : Int) + 1))
        · have hv' : sfR l a (s.set j (rd s (j : Int) + 1)) = (farN l a (s.set j (rd s (j : Int) + 1)) 0 : Int) := by unfold sfR; rw [if_pos ⟨h, by simpa using hsl, hs'⟩]
          have hb1 := farN_bd h _ 0 hs'
          have hst := farN_set l a hsum.1 s 0 j hjl
          rw [List.length_set] at hb1
          rw [hv', sw64 (by omega) (by omega), sw64 (x := -l.sum) (by omega) (by omega), if_pos hst.1, if_pos (by omega)]
        · have : rd s (j : Int) = 20000000 := by
            rcases Int.lt_or_le (rd s (j : Int)) 20000000 with q | q
            · refine absurd (fun x hx => ?_) hs'
              rcases List.mem_or_eq_of_mem_set hx with hx | rfl
              · exact hi x hx
              · omega
            · omega
          have hRR : (if 0 ≤ (j : Int) then (if (j : Int) < (s.length : Int) then some (rd s (j : Int) == 20000000) else none) else none) = some true := by
            rw [if_pos (by omega), if_pos (by omega), this]; rfl
          rw [hRR]
          split <;> (try split) <;> rfl
      · have hv : sfR l a s = -1 := by unfold sfR; rw [if_neg hR]
        rw [hv]; simp
end Go.Proofs.Ytfmjhckndlngaaa.Pure
