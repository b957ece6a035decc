/- The reference's ShareOf (chapter 14): its closed form. -/
import Derived.Test.YtfmjhckndlngaaaShares
import Derived.Test.YtfmjhckndlngaaaQ10
import Derived.Test.YtfmjhckndlngaaaQ2
namespace Go.Proofs.Ytfmjhckndlngaaa.Pure
open Go.RowKit Go.Proofs.Ytfmjhckndlngaaa.Q Go.Proofs.YtfmjhckndlngaaaW.PrintWords Go.Proofs.YtfmjhckndlngaaaW.PrintLast Go.Proofs.YtfmjhckndlngaaaW.PrintMore

/-- Go's division and what is left, for a divisor greater than 0, by the one that rounds down. -/
theorem tparts (a b : Int) (hb : 0 < b) : (Int.tmod a b < 0 → Int.tdiv a b - 1 = a / b ∧ Int.tmod a b + b = a % b) ∧ (¬ Int.tmod a b < 0 → Int.tdiv a b = a / b ∧ Int.tmod a b = a % b) := by
  have h1 : Int.tdiv a b * b + Int.tmod a b = a := Int.tdiv_mul_add_tmod a b
  have h2 : Int.tmod a b < b := Int.tmod_lt_of_pos a hb
  have h3 : -b < Int.tmod a b := by
    rcases Int.lt_or_le a 0 with h | h
    · have e : Int.tmod a b = -(Int.tmod (-a) b) := by rw [Int.neg_tmod]; omega
      have := Int.tmod_lt_of_pos (-a) hb
      omega
    · have := Int.tmod_nonneg b h; omega
  generalize Int.tdiv a b = q at *
  generalize Int.tmod a b = r at *
  constructor
  · intro h
    have := (Int.ediv_emod_unique (a := a) (b := b) (r := r + b) (q := q - 1) hb).2 ⟨by rw [← h1, Int.mul_sub, Int.mul_comm b q]; omega, by omega, by omega⟩
    exact ⟨this.1.symm, this.2.symm⟩
  · intro h
    have := (Int.ediv_emod_unique (a := a) (b := b) (r := r) (q := q) hb).2 ⟨by rw [← h1, Int.mul_comm b q]; omega, by omega, by omega⟩
    exact ⟨this.1.symm, this.2.symm⟩
theorem ediv_bd {a b : Int} (hb : 0 < b) (ha : -4611686018427387904 ≤ a ∧ a ≤ 4611686018427387904) : -4611686018427387905 ≤ a / b ∧ a / b ≤ 4611686018427387904 := by
  have h1 := Int.mul_ediv_add_emod a b
  have h2 := Int.emod_nonneg a (show b ≠ 0 by omega)
  have h3 := Int.emod_lt_of_pos a hb
  constructor
  · rcases Int.lt_or_le (a / b) (-4611686018427387905) with q | q
    · have : b * (a / b) ≤ b * (-4611686018427387906) := Int.mul_le_mul_of_nonneg_left (by omega) (by omega)
      omega
    · exact q
  · rcases Int.lt_or_le 4611686018427387904 (a / b) with q | q
    · have : b * 4611686018427387905 ≤ b * (a / b) := Int.mul_le_mul_of_nonneg_left (by omega) (by omega)
      omega
    · exact q
theorem l14Floor_eq (a b : Int) (hb : 0 < b) (ha : -4611686018427387904 ≤ a ∧ a ≤ 4611686018427387904) : spec_l14Floor.f a b = some (a / b) := by
  unfold spec_l14Floor.f
  have hp := tparts a b hb
  have hd := ediv_bd hb ha
  rw [if_neg (by omega)]
  by_cases h : Int.tmod a b < 0
  · have h1 := (hp.1 h).1
    rw [if_pos h, sw64 (x := Int.tdiv a b) (by omega) (by omega), sw64 (by omega) (by omega), h1]
  · have h1 := (hp.2 h).1
    rw [if_neg h, sw64 (by omega) (by omega), h1]

/-- The shares rounded down, and what is left of them. -/
def fl (l : List Int) (a : Int) : List Int := l.map fun x => a * x / l.sum
def rs (l : List Int) (a : Int) : List Int := l.map fun x => a * x % l.sum

/-- The first index with the greatest number. -/
def nextI (r : List Int) : List Int → Nat → Nat → Nat
  | [], _, b => b
  | y :: s, i, b => if y > rd r b then nextI r s (i + 1) i else nextI r s (i + 1) b
def nextR (r : List Int) : Nat := nextI r r 0 0
theorem l14Next_l0 {r : List Int} (suf : List Int) : ∀ (pre : List Int) (b k : Nat), suf.length < k → r = pre ++ suf → r.length < 4611686018427387904 → b < r.length →
    spec_l14Next.l0 k r (b : Int) (pre.length : Int) = some (nextI r suf pre.length b : Int) := by
  induction suf with
  | nil =>
    intro pre b k hk hr hl hb
    obtain ⟨k, rfl⟩ : ∃ m, k = m + 1 := ⟨k - 1, by omega⟩
    simp only [spec_l14Next.l0, nextI]
    rw [if_neg (by rw [hr]; simp)]
  | cons y suf ih =>
    intro pre b k hk hr hl hb
    simp only [List.length_cons] at hk
    have hlen : r.length = pre.length + suf.length + 1 := by rw [hr]; simp; omega
    obtain ⟨k, rfl⟩ : ∃ m, k = m + 1 := ⟨k - 1, by omega⟩
    have hy : rd r (pre.length : Int) = y := by rw [hr]; exact rd_mid pre suf y
    simp only [spec_l14Next.l0, nextI]
    rw [if_pos (by omega), if_pos (by omega), if_pos (by omega), if_pos (by omega), hy, next_mid pre y (by omega)]
    by_cases h : y > rd r (b : Int)
    · rw [if_pos h, if_pos h]
      have := ih (pre ++ [y]) pre.length k (by omega) (by rw [hr]; simp) hl (by omega)
      rw [List.length_append, List.length_singleton] at this ⊢
      exact this
    · rw [if_neg h, if_neg h]
      have := ih (pre ++ [y]) b k (by omega) (by rw [hr]; simp) hl hb
      rw [List.length_append, List.length_singleton] at this ⊢
      exact this
theorem nextI_lt {r : List Int} (suf : List Int) : ∀ (i b : Nat), i + suf.length ≤ r.length → b < r.length → nextI r suf i b < r.length := by
  induction suf with
  | nil => intro i b _ hb; exact hb
  | cons y s ih =>
    intro i b hi hb
    simp only [List.length_cons] at hi
    simp only [nextI]
    split
    · exact ih (i + 1) i (by omega) (by omega)
    · exact ih (i + 1) b (by omega) hb
theorem nextR_lt {r : List Int} (h : 0 < r.length) : nextR r < r.length := nextI_lt r 0 0 (by omega) h
theorem l14Next_eq (k : Nat) (r : List Int) (hk : r.length < k) (hl : r.length ≤ 1000000) (h0 : 0 < r.length) : spec_l14Next.f k r = some (nextR r : Int) := by
  have := l14Next_l0 (r := r) r [] 0 k hk rfl (by omega) h0
  simpa [spec_l14Next.f, nextR] using this

/-- So many more are made 1 greater, those with the greatest remainders first. -/
def pickN : Nat → List Int → List Int → List Int
  | 0, out, _ => out
  | m + 1, out, r => pickN m (out.set (nextR r) (rd out (nextR r) + 1)) (r.set (nextR r) (-1))
theorem set_bd {out : List Int} {B x : Int} {i : Nat} (h : ∀ y ∈ out, -B ≤ y ∧ y ≤ B) (hx : -B ≤ x ∧ x ≤ B) : ∀ y ∈ out.set i x, -B ≤ y ∧ y ≤ B := by
  intro y hy
  rcases List.mem_or_eq_of_mem_set hy with h1 | h1
  · exact h y h1
  · rw [h1]; exact hx
theorem rd_mem_bd {out : List Int} {B : Int} (hB : 0 ≤ B) (h : ∀ y ∈ out, -B ≤ y ∧ y ≤ B) (i : Int) : -B ≤ rd out i ∧ rd out i ≤ B := by
  unfold rd
  by_cases hi : i.toNat < out.length
  · rw [List.getD_eq_getElem?_getD, List.getElem?_eq_getElem hi]; exact h _ (List.getElem_mem hi)
  · rw [List.getD_eq_getElem?_getD, List.getElem?_eq_none (by omega)]; simp; omega
theorem ShareOf_l1 (m : Nat) : ∀ (out r : List Int) (B : Nat) (k : Nat), m + r.length + 2 < k → out.length = r.length → 0 < r.length → r.length ≤ 1000 → (∀ y ∈ out, -(B : Int) ≤ y ∧ y ≤ B) → B + m ≤ 4611686018427387904 →
    spec_ShareOf.l1 k out r (m : Int) = some (pickN m out r, true) := by
  induction m with
  | zero =>
    intro out r B k hk hl h0 _ hB _
    obtain ⟨k, rfl⟩ : ∃ m, k = m + 1 := ⟨k - 1, by omega⟩
    simp [spec_ShareOf.l1, pickN]
  | succ m ih =>
    intro out r B k hk hl h0 hr hB hm
    obtain ⟨k, rfl⟩ : ∃ m, k = m + 1 := ⟨k - 1, by omega⟩
    simp only [spec_ShareOf.l1, pickN]
    have hlt := nextR_lt h0
    have hb := rd_mem_bd (B := B) (by omega) hB (nextR r : Int)
    rw [if_pos (by omega), l14Next_eq k r (by omega) (by omega) h0]
    simp only [Option.bind_some]
    rw [if_pos (by omega), if_pos (by omega), if_pos (by omega), sw64 (x := rd out (nextR r : Int) + 1) (by omega) (by omega), sw64 (x := ((m + 1 : Nat) : Int) - 1) (by omega) (by omega), Int.toNat_natCast,
      show ((m + 1 : Nat) : Int) - 1 = (m : Int) by omega]
    refine ih _ _ (B + 1) k (by simp; omega) (by simp [hl]) (by simp; omega) (by simp; omega) ?_ (by omega)
    exact set_bd (fun y hy => by have := hB y hy; omega) (by omega)

/-- What the reference's ShareOf answers. -/
def shR (l : List Int) (a : Int) : List Int × Bool := if AV l a then (pickN (a - (fl l a).sum).toNat (fl l a) (rs l a), true) else ([], false)

theorem prod_bd {l : List Int} {a : Int} (h : AV l a) {x : Int} (hx : x ∈ l) : -100000000000 ≤ a * x ∧ a * x ≤ 100000000000 := by
  have h1 := h.1.1 x hx
  have := mulb (x := a) (y := x) (m := 10000000) (n := 10000) h.2 (by omega) (by omega) (by omega)
  omega
theorem fl_bd {l : List Int} {a : Int} (h : AV l a) : ∀ y ∈ fl l a, -((100000000001 : Nat) : Int) ≤ y ∧ y ≤ (100000000001 : Nat) := by
  intro y hy
  obtain ⟨x, hx, rfl⟩ := List.mem_map.1 hy
  have hp := prod_bd h hx
  have hs := h.1.sum
  have h1 := Int.mul_ediv_add_emod (a * x) l.sum
  have h2 := Int.emod_nonneg (a * x) (show l.sum ≠ 0 by omega)
  have h3 := Int.emod_lt_of_pos (a * x) hs.1
  constructor
  · rcases Int.lt_or_le (a * x / l.sum) (-100000000001) with q | q
    · have : l.sum * (a * x / l.sum) ≤ l.sum * (-100000000002) := Int.mul_le_mul_of_nonneg_left (by omega) (by omega)
      have : 1 * 100000000002 ≤ l.sum * 100000000002 := Int.mul_le_mul_of_nonneg_right (by omega) (by omega)
      omega
    · omega
  · rcases Int.lt_or_le 100000000001 (a * x / l.sum) with q | q
    · have : l.sum * 100000000002 ≤ l.sum * (a * x / l.sum) := Int.mul_le_mul_of_nonneg_left (by omega) (by omega)
      have : 1 * 100000000002 ≤ l.sum * 100000000002 := Int.mul_le_mul_of_nonneg_right (by omega) (by omega)
      omega
    · omega

/-- The sum of what is left is the sum of all lengths, so many times as are missing. -/
theorem missing_mul (a s : Int) (_hs : 0 < s) (l : List Int) : a * l.sum - s * (l.map fun x => a * x / s).sum = (l.map fun x => a * x % s).sum := by
  induction l with
  | nil => simp
  | cons y l ih =>
    simp only [List.sum_cons, List.map_cons]
    have := Int.mul_ediv_add_emod (a * y) s
    rw [Int.mul_add, Int.mul_add]
    omega
theorem rs_sum_bd (a s : Int) (hs : 0 < s) (l : List Int) : 0 ≤ (l.map fun x => a * x % s).sum ∧ (l.map fun x => a * x % s).sum ≤ s * l.length := by
  induction l with
  | nil => simp
  | cons y l ih =>
    simp only [List.sum_cons, List.map_cons, List.length_cons]
    have h2 := Int.emod_nonneg (a * y) (show s ≠ 0 by omega)
    have h3 := Int.emod_lt_of_pos (a * y) hs
    have e : s * ((l.length + 1 : Nat) : Int) = s * l.length + s := by rw [Int.natCast_add, Int.mul_add]; omega
    omega
/-- So many are missing as at most there are lengths, less 1. -/
theorem missing_bd {l : List Int} {a : Int} (h : AV l a) : 0 ≤ a - (fl l a).sum ∧ a - (fl l a).sum ≤ l.length := by
  have hs := h.1.sum
  have h1 := missing_mul a l.sum hs.1 l
  have h2 := rs_sum_bd a l.sum hs.1 l
  have e : l.sum * (a - (fl l a).sum) = (l.map fun x => a * x % l.sum).sum := by
    rw [← h1, Int.mul_sub, Int.mul_comm l.sum a]; rfl
  constructor
  · rcases Int.lt_or_le (a - (fl l a).sum) 0 with q | q
    · have := Int.mul_neg_of_pos_of_neg hs.1 q; omega
    · exact q
  · rcases Int.lt_or_le (l.length : Int) (a - (fl l a).sum) with q | q
    · have : l.sum * ((l.length : Int) + 1) ≤ l.sum * (a - (fl l a).sum) := Int.mul_le_mul_of_nonneg_left (by omega) (by omega)
      rw [Int.mul_add] at this
      omega
    · exact q

theorem ShareOf_l0 {l : List Int} {a : Int} (h : AV l a) (suf : List Int) : ∀ (pre : List Int) (k : Nat), suf.length + 100 < k → l = pre ++ suf →
    spec_ShareOf.l0 k l a (pre.map fun x => a * x / l.sum) l.sum (pre.map fun x => a * x % l.sum) (pre.length : Int) = some (pickN (a - (fl l a).sum).toNat (fl l a) (rs l a), true) := by
  have h20 := h.1.2.2.1
  have h1 := h.1.2.1
  have hs := h.1.sum
  induction suf with
  | nil =>
    intro pre k hk hl
    obtain ⟨k, rfl⟩ : ∃ m, k = m + 1 := ⟨k - 1, by omega⟩
    rw [List.append_nil] at hl
    subst hl
    simp only [spec_ShareOf.l0]
    have hm := missing_bd h
    rw [if_neg (by omega)]
    have hB := fl_bd h
    show ((spec_l14Sum.f k (fl l a)).bind fun t208 => (spec_ShareOf.l1 k (fl l a) (rs l a) (wrap64 (a - t208)))) = _
    have hlf : (fl l a).length = l.length := by simp [fl]
    have hlr : (rs l a).length = l.length := by simp [rs]
    rw [l14Sum_eq k 100000000001 (fl l a) (by omega) hB (by omega) (by omega)]
    simp only [Option.bind_some]
    have ha := h.2
    rw [sw64 (by omega) (by omega)]
    have e : a - (fl l a).sum = (((a - (fl l a).sum).toNat : Nat) : Int) := by omega
    rw [e, Int.toNat_natCast]
    exact ShareOf_l1 _ _ _ 100000000001 k (by omega) (by omega) (by omega) (by omega) hB (by omega)
  | cons y suf ih =>
    intro pre k hk hl
    simp only [List.length_cons] at hk
    have hlen : l.length = pre.length + suf.length + 1 := by rw [hl]; simp; omega
    obtain ⟨k, rfl⟩ : ∃ m, k = m + 1 := ⟨k - 1, by omega⟩
    have hy : rd l (pre.length : Int) = y := by rw [hl]; exact rd_mid pre suf y
    have hmem : y ∈ l := by rw [hl]; simp
    have hp := prod_bd h hmem
    simp only [spec_ShareOf.l0]
    rw [if_pos (by omega), if_pos (by omega), hy, sw64 (x := a * y) (by omega) (by omega), l14Floor_eq (a * y) l.sum hs.1 (by omega)]
    simp only [Option.bind_some]
    have hd := Int.mul_ediv_add_emod (a * y) l.sum
    have h2 := Int.emod_nonneg (a * y) (show l.sum ≠ 0 by omega)
    have h3 := Int.emod_lt_of_pos (a * y) hs.1
    have e : a * y / l.sum * l.sum = a * y - a * y % l.sum := by rw [Int.mul_comm]; omega
    rw [if_pos (by simp; omega), if_pos (by simp; omega), next_mid pre y (by omega), e, sw64 (x := a * y - a * y % l.sum) (by omega) (by omega), sw64 (by omega) (by omega), show a * y - (a * y - a * y % l.sum) = a * y % l.sum by omega]
    have := ih (pre ++ [y]) k (by omega) (by rw [hl]; simp)
    simpa using this
theorem spec_ShareOf_eq (k : Nat) (l : List Int) (a : Int) (hk : 2 * l.length + 200 < k) (hl : l.length ≤ 1048576) : spec_ShareOf.f k l a = some (shR l a) := by
  simp only [spec_ShareOf.f, l14Ok_eq k l a (by omega) hl, Option.bind_some]
  unfold shR
  by_cases h : AV l a
  · have h20 := h.1.2.2.1
    rw [if_pos (by simpa using h), if_pos h, l14Sum_eq k 10000 l (by omega) (fun x hx => by have := h.1.1 x hx; omega) (by omega) (by omega)]
    simp only [Option.bind_some]
    have := ShareOf_l0 h l [] k (by omega) rfl
    simpa using this
  · rw [if_neg (by simpa using h), if_neg h]
theorem pickN_length (m : Nat) : ∀ (out r : List Int), (pickN m out r).length = out.length := by
  induction m with
  | zero => intro out r; rfl
  | succ m ih => intro out r; simp only [pickN]; rw [ih, List.length_set]
end Go.Proofs.Ytfmjhckndlngaaa.Pure
