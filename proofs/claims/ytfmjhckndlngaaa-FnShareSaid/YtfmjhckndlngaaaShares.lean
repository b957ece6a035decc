/- Lengths and their sum, and how far shares are from exact ones (chapter 14): closed forms of the program's and the reference's functions. -/
import Derived.Test.YtfmjhckndlngaaaInts
import Derived.Test.YtfmjhckndlngaaaQ1
import Derived.Test.YtfmjhckndlngaaaQ2
import Derived.Test.YtfmjhckndlngaaaQ4
import Derived.Test.YtfmjhckndlngaaaQ5
import Derived.Test.YtfmjhckndlngaaaQ7
import Derived.Test.YtfmjhckndlngaaaQ8
namespace Go.Proofs.Ytfmjhckndlngaaa.Pure
open Go.RowKit Go.Proofs.Ytfmjhckndlngaaa.Q Go.Proofs.YtfmjhckndlngaaaW.PrintWords Go.Proofs.YtfmjhckndlngaaaW.PrintLast Go.Proofs.YtfmjhckndlngaaaW.PrintMore

theorem sw64 {x : Int} (h0 : -9223372036854775808 ≤ x) (h1 : x ≤ 9223372036854775807) : wrap64 x = x := by unfold wrap64; omega
theorem s6In_eq (a b c : Int) : spec_l6In.f a b c = some (decide (b ≤ a ∧ a ≤ c)) := by
  unfold spec_l6In.f
  by_cases h : a ≥ b
  · rw [if_pos h]; congr 1; rw [decide_eq_decide]; omega
  · rw [if_neg h]; congr 1; symm; rw [decide_eq_false_iff_not]; omega
theorem swithin_eq (a m : Int) (h0 : 0 ≤ m) (h1 : m ≤ 9223372036854775807) : impl_within.f a m = some (decide (-m ≤ a ∧ a ≤ m)) := by
  unfold impl_within.f
  rw [sw64 (by omega) (by omega)]
  by_cases h : -m ≤ a
  · rw [if_pos h]; congr 1; rw [decide_eq_decide]; omega
  · rw [if_neg h]; congr 1; symm; rw [decide_eq_false_iff_not]; omega
theorem sabs_eq {x : Int} (h0 : -9223372036854775807 ≤ x) (h1 : x ≤ 9223372036854775807) : impl_absInt.f x = some (x.natAbs : Int) := by
  unfold impl_absInt.f
  by_cases h : x < 0
  · rw [if_pos h, sw64 (by omega) (by omega)]; congr 1; omega
  · rw [if_neg h]; congr 1; omega
theorem ssize_eq {x : Int} (h0 : -9223372036854775807 ≤ x) (h1 : x ≤ 9223372036854775807) : spec_l1Size.f x = some (x.natAbs : Int) := by
  unfold spec_l1Size.f mx
  rw [sw64 (by omega) (by omega)]; congr 1; split <;> omega

theorem sum_bd {B : Nat} (l : List Int) (h : ∀ x ∈ l, -(B : Int) ≤ x ∧ x ≤ B) : -((l.length * B : Nat) : Int) ≤ l.sum ∧ l.sum ≤ (l.length * B : Nat) := by
  induction l with
  | nil => simp
  | cons y l ih =>
    have h1 := ih (fun x hx => h x (List.mem_cons_of_mem _ hx))
    have h2 := h y List.mem_cons_self
    rw [List.sum_cons, List.length_cons, Nat.succ_mul]
    omega
theorem l14Sum_l0 {B : Nat} (suf : List Int) : ∀ (pre : List Int) (s : Int) (k : Nat), suf.length < k → pre.length + suf.length < 4611686018427387904 → (∀ x ∈ suf, -(B : Int) ≤ x ∧ x ≤ B) →
    -4611686018427387904 ≤ s - ((suf.length * B : Nat) : Int) → s + ((suf.length * B : Nat) : Int) ≤ 4611686018427387904 → spec_l14Sum.l0 k (pre ++ suf) s (pre.length : Int) = some (s + suf.sum) := by
  induction suf with
  | nil =>
    intro pre s k hk _ _ _ _
    obtain ⟨k, rfl⟩ : ∃ m, k = m + 1 := ⟨k - 1, by omega⟩
    simp [spec_l14Sum.l0]
  | cons y suf ih =>
    intro pre s k hk hl hB h0 h1
    simp only [List.length_cons] at hk hl
    obtain ⟨k, rfl⟩ : ∃ m, k = m + 1 := ⟨k - 1, by omega⟩
    have hy := hB y List.mem_cons_self
    rw [List.length_cons, Nat.succ_mul] at h0 h1
    simp only [spec_l14Sum.l0]
    rw [if_pos (len_mid _ _ _), if_pos (by omega), rd_mid, next_mid pre y (by omega), app_mid pre suf y, sw64 (x := s + y) (by omega) (by omega)]
    rw [ih (pre ++ [y]) (s + y) k (by omega) (by simp; omega) (fun x hx => hB x (List.mem_cons_of_mem _ hx)) (by omega) (by omega), List.sum_cons]
    congr 1; omega
theorem l14Sum_eq (k : Nat) (B : Nat) (l : List Int) (hk : l.length < k) (hB : ∀ x ∈ l, -(B : Int) ≤ x ∧ x ≤ B) (hl : l.length ≤ 1000000) (hs : l.length * B ≤ 4611686018427387904) : spec_l14Sum.f k l = some l.sum := by
  unfold spec_l14Sum.f
  have := l14Sum_l0 (B := B) l [] 0 k hk (by simp; omega) hB (by omega) (by omega)
  simpa using this

/-- Valid lengths. -/
def LV (l : List Int) : Prop := (∀ x ∈ l, 0 ≤ x ∧ x ≤ 10000) ∧ 1 ≤ l.length ∧ l.length ≤ 20 ∧ 0 < l.sum
instance (l : List Int) : Decidable (LV l) := by unfold LV; infer_instance
theorem LV.sum {l : List Int} (h : LV l) : 0 < l.sum ∧ l.sum ≤ 200000 := by
  have := sum_bd (B := 10000) l (fun x hx => by have := h.1 x hx; omega)
  have h20 : l.length * 10000 ≤ 20 * 10000 := Nat.mul_le_mul_right _ h.2.2.1
  exact ⟨h.2.2.2, by omega⟩
theorem LV.at_ {l : List Int} (h : LV l) (i : Int) : 0 ≤ rd l i ∧ rd l i ≤ 10000 := by
  unfold rd
  by_cases hi : i.toNat < l.length
  · rw [List.getD_eq_getElem?_getD, List.getElem?_eq_getElem hi]; exact h.1 _ (List.getElem_mem hi)
  · rw [List.getD_eq_getElem?_getD, List.getElem?_eq_none (by omega)]; simp

theorem l14Lengths_l0 (suf : List Int) : ∀ (pre : List Int) (k : Nat), 2 * suf.length + pre.length + 1 < k → pre.length + suf.length < 4611686018427387904 → (∀ x ∈ pre, 0 ≤ x ∧ x ≤ 10000) →
    spec_l14Lengths.l0 k (pre ++ suf) (pre.length : Int) = some (decide (LV (pre ++ suf))) := by
  induction suf with
  | nil =>
    intro pre k hk hl hp
    obtain ⟨k, rfl⟩ : ∃ m, k = m + 1 := ⟨k - 1, by omega⟩
    simp only [spec_l14Lengths.l0, List.append_nil, s6In_eq, Option.bind_some] at *
    rw [if_neg (by omega)]
    by_cases h : 1 ≤ (pre.length : Int) ∧ (pre.length : Int) ≤ 20
    · rw [if_pos (by simpa using h), l14Sum_eq k 10000 pre (by omega) (fun x hx => by have := hp x hx; omega) (by omega) (by omega)]
      simp only [Option.bind_some]
      congr 1; rw [decide_eq_decide]; unfold LV
      exact ⟨fun q => ⟨hp, by omega, by omega, q⟩, fun q => q.2.2.2⟩
    · rw [if_neg (by simpa using h)]; congr 1; symm; rw [decide_eq_false_iff_not]; unfold LV; omega
  | cons y suf ih =>
    intro pre k hk hl hp
    simp only [List.length_cons] at hk hl
    obtain ⟨k, rfl⟩ : ∃ m, k = m + 1 := ⟨k - 1, by omega⟩
    simp only [spec_l14Lengths.l0, s6In_eq, Option.bind_some]
    rw [if_pos (len_mid _ _ _), if_pos (by omega), rd_mid]
    by_cases h : 0 ≤ y ∧ y ≤ 10000
    · rw [if_pos (by simpa using h), next_mid pre y (by omega), app_mid pre suf y]
      exact ih (pre ++ [y]) k (by simp; omega) (by simp; omega) (fun x hx => by
        rcases List.mem_append.1 hx with hx | hx
        · exact hp x hx
        · rw [List.mem_singleton.1 hx]; exact h)
    · rw [if_neg (by simpa using h)]; congr 1; symm; rw [decide_eq_false_iff_not]
      intro q; exact h (q.1 y (by simp))
theorem l14Lengths_eq (k : Nat) (l : List Int) (hk : 2 * l.length + 1 < k) (hl : l.length ≤ 1048576) : spec_l14Lengths.f k l = some (decide (LV l)) := by
  have := l14Lengths_l0 l [] k (by simp; omega) (by simp; omega) (by simp)
  simpa [spec_l14Lengths.f] using this

/-- Valid lengths and a valid amount. -/
def AV (l : List Int) (a : Int) : Prop := LV l ∧ -10000000 ≤ a ∧ a ≤ 10000000
instance (l : List Int) (a : Int) : Decidable (AV l a) := by unfold AV; infer_instance
theorem l14Ok_eq (k : Nat) (l : List Int) (a : Int) (hk : 2 * l.length + 1 < k) (hl : l.length ≤ 1048576) : spec_l14Ok.f k l a = some (decide (AV l a)) := by
  simp only [spec_l14Ok.f, l14Lengths_eq k l hk hl, s6In_eq, Option.bind_some]
  by_cases h : LV l
  · rw [if_pos (by simpa using h)]; congr 1; rw [decide_eq_decide]; unfold AV; simp [h]
  · rw [if_neg (by simpa using h)]; congr 1; symm; rw [decide_eq_false_iff_not]; unfold AV; simp [h]

theorem lengthsSum_l0 (suf : List Int) : ∀ (pre : List Int) (k : Nat), suf.length < k → pre.length + suf.length ≤ 20 → 1 ≤ pre.length + suf.length → (∀ x ∈ pre, 0 ≤ x ∧ x ≤ 10000) →
    impl_lengthsSum.l0 k pre.sum (pre ++ suf) ((pre ++ suf).length : Int) (pre.length : Int) = some (if LV (pre ++ suf) then ((pre ++ suf).sum, true) else (0, false)) := by
  induction suf with
  | nil =>
    intro pre k hk hl hl1 hp
    obtain ⟨k, rfl⟩ : ∃ m, k = m + 1 := ⟨k - 1, by omega⟩
    simp only [impl_lengthsSum.l0, List.append_nil] at *
    rw [if_neg (by omega)]
    have hs0 : 0 ≤ pre.sum := by
      clear hl hl1 hk
      induction pre with
      | nil => simp
      | cons z pre ihp => rw [List.sum_cons]; have := hp z List.mem_cons_self; have := ihp (fun x hx => hp x (List.mem_cons_of_mem _ hx)); omega
    simp only [List.length_nil, Nat.add_zero] at hl hl1
    by_cases h : LV pre
    · rw [if_pos h]; have := h.sum; simp; omega
    · rw [if_neg h]
      have : ¬ 0 < pre.sum := fun q => h ⟨hp, hl1, hl, q⟩
      have e : pre.sum = 0 := by omega
      rw [e]; simp
  | cons y suf ih =>
    intro pre k hk hl hl1 hp
    simp only [List.length_cons] at hk hl
    obtain ⟨k, rfl⟩ : ∃ m, k = m + 1 := ⟨k - 1, by omega⟩
    simp only [impl_lengthsSum.l0]
    rw [if_pos (len_mid _ _ _), if_pos (by omega), if_pos (len_mid _ _ _), rd_mid]
    by_cases h0 : y < 0
    · rw [if_pos h0, if_neg (fun q => by have := q.1 y (by simp); omega)]
    · by_cases h1 : y > 10000
      · rw [if_neg h0, if_pos h1, if_neg (fun q => by have := q.1 y (by simp); omega)]
      · have hsb := sum_bd (B := 10000) pre (fun x hx => by have := hp x hx; omega)
        have h20 : pre.length * 10000 ≤ 20 * 10000 := Nat.mul_le_mul_right _ (by omega)
        rw [if_neg h0, if_neg h1, next_mid pre y (by omega), app_mid pre suf y, sw64 (by omega) (by omega)]
        have e : pre.sum + y = (pre ++ [y]).sum := by simp
        rw [e]
        exact ih (pre ++ [y]) k (by omega) (by simp; omega) (by simp; omega) (fun x hx => by
          rcases List.mem_append.1 hx with hx | hx
          · exact hp x hx
          · rw [List.mem_singleton.1 hx]; omega)
theorem lengthsSum_eq (k : Nat) (l : List Int) (hk : 22 < k) : impl_lengthsSum.f k l = some (if LV l then (l.sum, true) else (0, false)) := by
  obtain ⟨k, rfl⟩ : ∃ m, k = m + 1 := ⟨k - 1, by omega⟩
  unfold impl_lengthsSum.f
  by_cases h1 : (l.length : Int) < 1
  · rw [if_pos h1, if_neg (fun q => by have := q.2.1; omega)]; simp [impl_lengthsSum.j0]
  · rw [if_neg h1]
    by_cases h2 : (l.length : Int) > 20
    · rw [if_neg (fun q => by have := q.2.2.1; omega)]; simp only [impl_lengthsSum.j0]; rw [if_pos (by simpa using h2)]
    · simp only [impl_lengthsSum.j0]; rw [if_neg (by simpa using h2)]
      have := lengthsSum_l0 l [] k (by omega) (by simp; omega) (by simp; omega) (by simp)
      simpa using this

theorem mulb {x y m n : Int} (hx : -m ≤ x ∧ x ≤ m) (hy : -n ≤ y ∧ y ≤ n) (hm : 0 ≤ m) (hn : 0 ≤ n) : -(m * n) ≤ x * y ∧ x * y ≤ m * n := by
  have h1 : x.natAbs ≤ m.toNat := by omega
  have h2 : y.natAbs ≤ n.toNat := by omega
  have h3 : (x * y).natAbs ≤ m.toNat * n.toNat := by rw [Int.natAbs_mul]; exact Nat.mul_le_mul h1 h2
  have h4 : ((m.toNat * n.toNat : Nat) : Int) = m * n := by rw [Int.natCast_mul, Int.toNat_of_nonneg hm, Int.toNat_of_nonneg hn]
  omega

/-- How far the shares (from index i on) are from the exact ones, times the sum. -/
def farN (l : List Int) (a : Int) : List Int → Nat → Nat
  | [], _ => 0
  | y :: s, i => (y * l.sum - a * rd l i).natAbs + farN l a s (i + 1)
theorem diff_bd {l : List Int} {a y : Int} (h : AV l a) (hy : -20000000 ≤ y ∧ y ≤ 20000000) (i : Int) : -4611686018427 ≤ y * l.sum - a * rd l i ∧ y * l.sum - a * rd l i ≤ 4611686018427 ∧
    wrap64 (wrap64 (y * l.sum) - wrap64 (a * rd l i)) = y * l.sum - a * rd l i := by
  have hs := h.1.sum
  have hr := h.1.at_ i
  have b1 := mulb (x := y) (y := l.sum) (m := 20000000) (n := 200000) (by omega) (by omega) (by omega) (by omega)
  have b2 := mulb (x := a) (y := rd l i) (m := 10000000) (n := 10000) (by have := h.2; omega) (by omega) (by omega) (by omega)
  refine ⟨by omega, by omega, ?_⟩
  rw [sw64 (x := y * l.sum) (by omega) (by omega), sw64 (x := a * rd l i) (by omega) (by omega), sw64 (by omega) (by omega)]

/-- Whether all shares are in range. -/
def shIn (m : Int) (s : List Int) : Prop := ∀ x ∈ s, -m ≤ x ∧ x ≤ m
instance (m : Int) (s : List Int) : Decidable (shIn m s) := by unfold shIn; infer_instance
theorem spec_Far_l0 {l : List Int} {a : Int} (h : AV l a) (suf : List Int) : ∀ (pre : List Int) (n : Int) (k : Nat), suf.length + 25 < k → pre.length + suf.length = l.length → 0 ≤ n → n ≤ (pre.length : Int) * 4611686018427 →
    spec_ShareFar.l0 k l a (pre ++ suf) n (pre.length : Int) = some (if shIn 20000000 suf then n + farN l a suf pre.length else -1) := by
  have h20 := h.1.2.2.1
  induction suf with
  | nil =>
    intro pre n k hk hl hn0 hn1
    obtain ⟨k, rfl⟩ : ∃ m, k = m + 1 := ⟨k - 1, by omega⟩
    simp [spec_ShareFar.l0, shIn, farN]
  | cons y suf ih =>
    intro pre n k hk hl hn0 hn1
    simp only [List.length_cons] at hk hl
    obtain ⟨k, rfl⟩ : ∃ m, k = m + 1 := ⟨k - 1, by omega⟩
    simp only [spec_ShareFar.l0, s6In_eq, Option.bind_some]
    rw [if_pos (len_mid _ _ _), if_pos (by omega), rd_mid]
    by_cases hy : -20000000 ≤ y ∧ y ≤ 20000000
    · have hd := diff_bd h hy (pre.length : Int)
      rw [if_pos (by simpa using hy), l14Sum_eq k 10000 l (by omega) (fun x hx => by have := h.1.1 x hx; omega) (by omega) (by omega)]
      simp only [Option.bind_some]
      rw [if_pos (by omega), hd.2.2, ssize_eq (by omega) (by omega)]
      simp only [Option.bind_some]
      rw [next_mid pre y (by omega), app_mid pre suf y, sw64 (by omega) (by omega), ih (pre ++ [y]) _ k (by omega) (by simp; omega) (by omega) (by simp; omega)]
      have e : shIn 20000000 (y :: suf) ↔ shIn 20000000 suf := by unfold shIn; simp [hy]
      by_cases hs : shIn 20000000 suf
      · rw [if_pos hs, if_pos (e.2 hs)]; simp only [farN, List.length_append, List.length_singleton]; congr 1; omega
      · rw [if_neg hs, if_neg (fun q => hs (e.1 q))]
    · rw [if_neg (by simpa using hy), if_neg (fun q => hy (q y List.mem_cons_self))]
theorem impl_Far_l0 {l : List Int} {a : Int} (h : AV l a) (suf : List Int) : ∀ (pre : List Int) (n : Int) (k : Nat), suf.length < k → pre.length + suf.length = l.length → 0 ≤ n → n ≤ (pre.length : Int) * 4611686018427 →
    impl_ShareFar.l0 k l a l.sum n (pre ++ suf) ((pre ++ suf).length : Int) (pre.length : Int) = some (if shIn 20000000 suf then n + farN l a suf pre.length else -1) := by
  have h20 := h.1.2.2.1
  induction suf with
  | nil =>
    intro pre n k hk hl hn0 hn1
    obtain ⟨k, rfl⟩ : ∃ m, k = m + 1 := ⟨k - 1, by omega⟩
    simp [impl_ShareFar.l0, shIn, farN]
  | cons y suf ih =>
    intro pre n k hk hl hn0 hn1
    simp only [List.length_cons] at hk hl
    obtain ⟨k, rfl⟩ : ∃ m, k = m + 1 := ⟨k - 1, by omega⟩
    simp only [impl_ShareFar.l0]
    rw [if_pos (len_mid _ _ _), if_pos (by omega), if_pos (len_mid _ _ _), rd_mid, swithin_eq _ _ (by omega) (by omega)]
    simp only [Option.bind_some]
    by_cases hy : -20000000 ≤ y ∧ y ≤ 20000000
    · have hd := diff_bd h hy (pre.length : Int)
      rw [if_pos (by simpa using hy), if_pos (by omega), hd.2.2, sabs_eq (by omega) (by omega)]
      simp only [Option.bind_some]
      rw [next_mid pre y (by omega), app_mid pre suf y, sw64 (by omega) (by omega), ih (pre ++ [y]) _ k (by omega) (by simp; omega) (by omega) (by simp; omega)]
      have e : shIn 20000000 (y :: suf) ↔ shIn 20000000 suf := by unfold shIn; simp [hy]
      by_cases hs : shIn 20000000 suf
      · rw [if_pos hs, if_pos (e.2 hs)]; simp only [farN, List.length_append, List.length_singleton]; congr 1; omega
      · rw [if_neg hs, if_neg (fun q => hs (e.1 q))]
    · rw [if_neg (by simpa using hy), if_neg (fun q => hy (q y List.mem_cons_self))]

/-- What ShareFar answers. -/
def sfR (l : List Int) (a : Int) (s : List Int) : Int := if AV l a ∧ s.length = l.length ∧ shIn 20000000 s then (farN l a s 0 : Int) else -1
theorem spec_ShareFar_eq (k : Nat) (l : List Int) (a : Int) (s : List Int) (hk : 2 * l.length + 100 < k) (hl : l.length ≤ 1048576) : spec_ShareFar.f k l a s = some (sfR l a s) := by
  obtain ⟨k, rfl⟩ : ∃ m, k = m + 1 := ⟨k - 1, by omega⟩
  simp only [spec_ShareFar.f, l14Ok_eq (k + 1) l a (by omega) hl, Option.bind_some, spec_ShareFar.j0]
  unfold sfR
  by_cases h : AV l a
  · rw [if_pos (by simpa using h)]
    by_cases hs : s.length = l.length
    · have h20 := h.1.2.2.1
      have := spec_Far_l0 h s [] 0 k (by omega) (by simp; omega) (by omega) (by simp)
      rw [if_neg (by simp [hs])]
      simp only [List.nil_append, List.length_nil] at this
      rw [show ((0 : Nat) : Int) = 0 from rfl] at this
      rw [this]
      by_cases hi : shIn 20000000 s
      · rw [if_pos hi, if_pos ⟨h, hs, hi⟩]; simp
      · rw [if_neg hi, if_neg (fun q => hi q.2.2)]
    · rw [if_pos (by simp; omega), if_neg (fun q => hs q.2.1)]
  · rw [if_neg (by simpa using h), if_pos trivial, if_neg (fun q => h q.1)]
theorem impl_ShareFar_eq (k : Nat) (l : List Int) (a : Int) (s : List Int) (hk : 30 < k) : impl_ShareFar.f k l a s = some (sfR l a s) := by
  obtain ⟨k, rfl⟩ : ∃ m, k = m + 1 := ⟨k - 1, by omega⟩
  simp only [impl_ShareFar.f, lengthsSum_eq (k + 1) l (by omega), Option.bind_some, impl_ShareFar.j0]
  unfold sfR
  by_cases hL : LV l
  · rw [if_pos hL, if_pos rfl, swithin_eq _ _ (by omega) (by omega)]
    simp only [Option.bind_some]
    by_cases ha : -10000000 ≤ a ∧ a ≤ 10000000
    · rw [if_pos (by simpa using ha)]
      have h : AV l a := ⟨hL, ha⟩
      by_cases hs : s.length = l.length
      · have h20 := h.1.2.2.1
        have := impl_Far_l0 h s [] 0 k (by omega) (by simp; omega) (by omega) (by simp)
        rw [if_neg (by simp [hs])]
        simp only [List.nil_append, List.length_nil] at this
        rw [show ((0 : Nat) : Int) = 0 from rfl] at this
        rw [this]
        by_cases hi : shIn 20000000 s
        · rw [if_pos hi, if_pos ⟨h, hs, hi⟩]; simp
        · rw [if_neg hi, if_neg (fun q => hi q.2.2)]
      · rw [if_pos (by simp; omega), if_neg (fun q => hs q.2.1)]
    · rw [if_neg (by simpa using ha), if_pos trivial, if_neg (fun q => ha q.1.2)]
  · rw [if_neg hL, if_neg (by simp), if_pos trivial, if_neg (fun q => hL q.1.1)]
end Go.Proofs.Ytfmjhckndlngaaa.Pure
