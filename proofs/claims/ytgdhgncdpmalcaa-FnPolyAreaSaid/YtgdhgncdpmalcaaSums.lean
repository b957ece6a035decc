/- Sums of whole numbers over a range. -/
import Derived.Below
namespace Go.Proofs.Ytgdhgncdpmalcaa.Geo
set_option linter.unusedVariables false
/-! ### Sums -/
def sm (lo : Nat) : Nat → (Nat → Int) → Int
  | 0, _ => 0
  | k + 1, f => sm lo k f + f (lo + k)
theorem sm_congr {lo k : Nat} {f g : Nat → Int} (h : ∀ j, lo ≤ j → j < lo + k → f j = g j) : sm lo k f = sm lo k g := by
  induction k with
  | zero => rfl
  | succ k ih => simp only [sm]; rw [ih (fun j a b => h j a (by omega)), h (lo + k) (by omega) (by omega)]
theorem sm_tele (lo k : Nat) (f : Nat → Int) : sm lo k (fun j => f (j + 1) - f j) = f (lo + k) - f lo := by
  induction k with
  | zero => simp [sm]
  | succ k ih => simp only [sm]; rw [ih, show lo + (k + 1) = lo + k + 1 from rfl]; omega
theorem sm_first (lo k : Nat) (f : Nat → Int) : sm lo (k + 1) f = f lo + sm (lo + 1) k f := by
  induction k with
  | zero => simp [sm]
  | succ k ih => rw [sm, ih, sm, show lo + 1 + k = lo + (k + 1) from by omega]; omega
theorem sm_add (lo k : Nat) (f g : Nat → Int) : sm lo k (fun j => f j + g j) = sm lo k f + sm lo k g := by
  induction k with
  | zero => rfl
  | succ k ih => simp only [sm]; rw [ih]; omega
theorem sm_sub (lo k : Nat) (f g : Nat → Int) : sm lo k (fun j => f j - g j) = sm lo k f - sm lo k g := by
  induction k with
  | zero => rfl
  | succ k ih => simp only [sm]; rw [ih]; omega
theorem sm_zero {lo k : Nat} {f : Nat → Int} (h : ∀ j, lo ≤ j → j < lo + k → f j = 0) : sm lo k f = 0 := by
  induction k with
  | zero => rfl
  | succ k ih => simp only [sm]; rw [ih (fun j a b => h j a (by omega)), h (lo + k) (by omega) (by omega)]; rfl
theorem sm_shift (lo k : Nat) (f : Nat → Int) (h : f (lo + k) = f lo) : sm (lo + 1) k f = sm lo k f := by
  have a := sm_first lo k f
  simp only [sm] at a
  omega
theorem sm_period {n : Nat} {f : Nat → Int} (h : ∀ i, f (i + n) = f i) (lo : Nat) : sm lo n f = sm 0 n f := by
  induction lo with
  | zero => rfl
  | succ lo ih => rw [sm_shift lo n f (h lo), ih]
theorem sm_split (lo a b : Nat) (f : Nat → Int) : sm lo (a + b) f = sm lo a f + sm (lo + a) b f := by
  induction b with
  | zero => simp [sm]
  | succ b ih => rw [show a + (b + 1) = (a + b) + 1 from rfl, sm, ih, sm, show lo + (a + b) = lo + a + b from by omega]; omega
/-- A row of cells. -/
theorem sm_cells {lo k : Nat} {f g h : Nat → Int} (H : ∀ j, lo ≤ j → j < lo + k → f j + h (j + 1) = g j + h j) : sm lo k f + h (lo + k) = sm lo k g + h lo := by
  have e : sm lo k f = sm lo k (fun j => g j - (h (j + 1) - h j)) := sm_congr (fun j a b => by have := H j a b; omega)
  have e2 := sm_sub lo k g (fun j => h (j + 1) - h j)
  rw [sm_tele] at e2
  rw [e, e2]; omega

theorem sm_neg (lo k : Nat) (f : Nat → Int) : sm lo k (fun j => -(f j)) = -(sm lo k f) := by
  induction k with
  | zero => rfl
  | succ k ih => simp only [sm]; rw [ih]; omega
theorem sm_rev (k : Nat) (f : Nat → Int) : sm 0 k (fun j => f (k - 1 - j)) = sm 0 k f := by
  induction k with
  | zero => rfl
  | succ k ih =>
    rw [sm_first, sm]
    have : sm (0 + 1) k (fun j => f (k + 1 - 1 - j)) = sm 0 k (fun j => f (k - 1 - j)) := by
      have sh : ∀ (m : Nat) (g h : Nat → Int), (∀ j, j < m → g (j + 1) = h j) → sm (0 + 1) m g = sm 0 m h := by
        intro m g h
        induction m with
        | zero => intro _; rfl
        | succ m ihm => intro hh; simp only [sm]; rw [ihm (fun j hj => hh j (by omega)), show 0 + 1 + m = m + 1 from by omega, hh m (by omega), Nat.zero_add]
      exact sh k _ _ (fun j hj => by rw [show k + 1 - 1 - (j + 1) = k - 1 - j from by omega])
    rw [this, ih, Nat.zero_add, show k + 1 - 1 - 0 = k from by omega]
    omega
theorem sm_sh (m lo : Nat) (g : Nat → Int) : sm lo m g = sm 0 m (fun j => g (lo + j)) := by
  induction m with
  | zero => rfl
  | succ m ih => simp only [sm]; rw [ih, Nat.zero_add]
theorem sm_bd {lo k : Nat} {f : Nat → Int} {B : Int} (h : ∀ j, lo ≤ j → j < lo + k → -B ≤ f j ∧ f j ≤ B) : -(B * k) ≤ sm lo k f ∧ sm lo k f ≤ B * k := by
  induction k with
  | zero => simp [sm]
  | succ k ih =>
    have h1 := ih (fun j a b => h j a (by omega))
    have h2 := h (lo + k) (by omega) (by omega)
    have e : B * ((k + 1 : Nat) : Int) = B * (k : Int) + B := by rw [Int.natCast_add, Int.mul_add]; simp
    rw [sm, e]
    omega
end Go.Proofs.Ytgdhgncdpmalcaa.Geo
