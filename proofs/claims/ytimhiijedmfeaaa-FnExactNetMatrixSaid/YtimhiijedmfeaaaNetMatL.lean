/- The closed form of the program's NetMatrix (chapter 22): entry by entry. -/
import Derived.Test.YtimhiijedmfeaaaNetSource
import Derived.Test.YtimhiijedmfeaaaMatsI
import Derived.Test.YtimhiijedmfeaaaQ28
import Derived.Test.YtimhiijedmfeaaaQ29
import Derived.Test.YtimhiijedmfeaaaQ30
import Derived.Test.YtimhiijedmfeaaaQ4
namespace Go.Proofs.Ytimhiijedmfeaaa.Pure
open Go.RowKit Go.Proofs.Ytimhiijedmfeaaa.Q Go.Proofs.YtimhiijedmfeaaaW.PrintWords Go.Proofs.YtimhiijedmfeaaaW.PrintLast
/-- 1 at a run's end, -1 at its begin. -/
def sgnE (r : Run) (i : Int) : Int := (if r.f1 = i then 1 else 0) - (if r.f0 = i then 1 else 0)
def lapE : List Run → Int → Int → Int
  | [], _, _ => 0
  | r :: s, i, j => r.f3 * (sgnE r i * sgnE r j) + lapE s i j
theorem lapE_snoc (a : List Run) (y : Run) (i j : Int) : lapE (a ++ [y]) i j = lapE a i j + y.f3 * (sgnE y i * sgnE y j) := by
  induction a with
  | nil => simp [lapE]
  | cons r a ih => rw [List.cons_append]; simp only [lapE]; rw [ih]; omega
theorem sgnE_bd (r : Run) (i : Int) : -1 ≤ sgnE r i ∧ sgnE r i ≤ 1 := by
  unfold sgnE; split <;> split <;> omega
theorem lapE_bd {n : Int} (l : List Run) (h : ∀ r ∈ l, rvB n r = true) (i j : Int) : -(9 * (l.length : Int)) ≤ lapE l i j ∧ lapE l i j ≤ 9 * (l.length : Int) := by
  induction l with
  | nil => simp [lapE]
  | cons r l ih =>
    have h1 := ih (fun x hx => h x (List.mem_cons_of_mem _ hx))
    have hv := rvB_iff.1 (h r List.mem_cons_self)
    have b1 := smulb (x := sgnE r i) (y := sgnE r j) (m := 1) (n := 1) (sgnE_bd r i) (sgnE_bd r j) (by omega) (by omega)
    have b2 := smulb (x := r.f3) (y := sgnE r i * sgnE r j) (m := 9) (n := 1) (by omega) (by omega) (by omega) (by omega)
    simp only [lapE, List.length_cons]
    omega
theorem rd_setn {l : List Int} {p q : Nat} {y : Int} (hp : p < l.length) : rd (l.set p y) (q : Int) = if p = q then y else rd l (q : Int) := by
  unfold rd
  simp only [Int.toNat_natCast, List.getD_eq_getElem?_getD, List.getElem?_set]
  by_cases h : p = q
  · subst h; simp [hp]
  · simp [h]
theorem idx_lt {N a b : Nat} (ha : a < N) (hb : b < N) : a * N + b < N * N := by
  have : (a + 1) * N ≤ N * N := Nat.mul_le_mul_right _ ha
  rw [Nat.add_mul] at this
  omega
theorem idx_inj {N a b i j : Nat} (hb : b < N) (hj : j < N) : a * N + b = i * N + j ↔ a = i ∧ b = j := by
  constructor
  · intro h
    rcases Nat.lt_trichotomy a i with q | q | q
    · have : (a + 1) * N ≤ i * N := Nat.mul_le_mul_right _ q
      rw [Nat.add_mul] at this; omega
    · subst q; exact ⟨rfl, by omega⟩
    · have : (i + 1) * N ≤ a * N := Nat.mul_le_mul_right _ q
      rw [Nat.add_mul] at this; omega
  · rintro ⟨rfl, rfl⟩; rfl
theorem cells_add_eq {N a b : Nat} {L : List Int} {w : Int} (hN : N ≤ 6) (hL : L.length = N * N) (ha : a < N) (hb : b < N) (hw : -10 ≤ w ∧ w ≤ 10) (hr : -1000 ≤ rd L ((a * N + b : Nat) : Int) ∧ rd L ((a * N + b : Nat) : Int) ≤ 1000) :
    impl_cells_add.f (N : Int) L (a : Int) (b : Int) w = some (L.set (a * N + b) (rd L ((a * N + b : Nat) : Int) + w)) := by
  have h1 := idx_lt ha hb
  have h2 : N * N ≤ 36 := Nat.mul_le_mul hN hN
  have e : (a : Int) * (N : Int) = ((a * N : Nat) : Int) := by rw [Int.natCast_mul]
  have e2 : ((a * N : Nat) : Int) + (b : Int) = ((a * N + b : Nat) : Int) := by omega
  unfold impl_cells_add.f
  rw [e, nw64 (x := ((a * N : Nat) : Int)) (by omega) (by omega), e2, nw64 (x := ((a * N + b : Nat) : Int)) (by omega) (by omega), if_pos (by omega), if_pos (by omega), Int.toNat_natCast, nw64 (x := rd L ((a * N + b : Nat) : Int) + w) (by omega) (by omega)]
theorem cells_at_eq {N a b : Nat} {L : List Int} (hN : N ≤ 6) (hL : L.length = N * N) (ha : a < N) (hb : b < N) : impl_cells_at.f (N : Int) L (a : Int) (b : Int) = some (rd L ((a * N + b : Nat) : Int)) := by
  have h1 := idx_lt ha hb
  have h2 : N * N ≤ 36 := Nat.mul_le_mul hN hN
  have e : (a : Int) * (N : Int) = ((a * N : Nat) : Int) := by rw [Int.natCast_mul]
  have e2 : ((a * N : Nat) : Int) + (b : Int) = ((a * N + b : Nat) : Int) := by omega
  unfold impl_cells_at.f
  rw [e, nw64 (x := ((a * N : Nat) : Int)) (by omega) (by omega), e2, nw64 (x := ((a * N + b : Nat) : Int)) (by omega) (by omega), if_pos (by omega), if_pos (by omega)]
/-- The cells hold the matrix. -/
def Lap (N : Nat) (L : List Int) (l : List Run) : Prop := L.length = N * N ∧ ∀ i j : Nat, i < N → j < N → rd L ((i * N + j : Nat) : Int) = lapE l (i : Int) (j : Int)
/-- One cell more by w. -/
def upd (g : Nat → Int) (p : Nat) (w : Int) : Nat → Int := fun q => if p = q then g p + w else g q
theorem upd_same (g : Nat → Int) (p : Nat) (w : Int) : upd g p w p = g p + w := by unfold upd; rw [if_pos rfl]
theorem upd_ne (g : Nat → Int) {p q : Nat} (w : Int) (h : p ≠ q) : upd g p w q = g q := by unfold upd; rw [if_neg h]
theorem sgn_t {r : Run} {t f : Nat} (ht : r.f1 = t) (hf : r.f0 = f) (h : t ≠ f) : sgnE r (t : Int) = 1 := by
  unfold sgnE; rw [ht, hf, if_pos rfl, if_neg (by omega)]; rfl
theorem sgn_f {r : Run} {t f : Nat} (ht : r.f1 = t) (hf : r.f0 = f) (h : t ≠ f) : sgnE r (f : Int) = -1 := by
  unfold sgnE; rw [ht, hf, if_neg (by omega), if_pos rfl]; rfl
theorem sgn_o {r : Run} {t f i : Nat} (ht : r.f1 = t) (hf : r.f0 = f) (h : t ≠ i) (h' : f ≠ i) : sgnE r (i : Int) = 0 := by
  unfold sgnE; rw [ht, hf, if_neg (by omega), if_neg (by omega)]; rfl
theorem four_upd {N t f i j : Nat} {r : Run} {g : Nat → Int} (ht : r.f1 = t) (hf : r.f0 = f) (htf : t ≠ f) (htN : t < N) (hfN : f < N) (hj : j < N) :
    upd (upd (upd (upd g (f * N + f) r.f3) (t * N + t) r.f3) (f * N + t) (-r.f3)) (t * N + f) (-r.f3) (i * N + j) = g (i * N + j) + r.f3 * (sgnE r (i : Int) * sgnE r (j : Int)) := by
  have n12 : f * N + f ≠ t * N + t := fun q => htf ((idx_inj hfN htN).1 q).1.symm
  have n13 : f * N + f ≠ f * N + t := fun q => htf ((idx_inj hfN htN).1 q).2.symm
  have n14 : f * N + f ≠ t * N + f := fun q => htf ((idx_inj hfN hfN).1 q).1.symm
  have n23 : t * N + t ≠ f * N + t := fun q => htf ((idx_inj htN htN).1 q).1
  have n24 : t * N + t ≠ t * N + f := fun q => htf ((idx_inj htN hfN).1 q).2
  have n34 : f * N + t ≠ t * N + f := fun q => htf ((idx_inj htN hfN).1 q).2
  by_cases it : t = i
  · subst it
    by_cases jt : t = j
    · subst jt
      rw [upd_ne _ _ (fun q => n24 q.symm), upd_ne _ _ (fun q => n23 q.symm), upd_same, upd_ne _ _ n12, sgn_t ht hf htf]; omega
    · by_cases jf : f = j
      · subst jf
        rw [upd_same, upd_ne _ _ n34, upd_ne _ _ n24, upd_ne _ _ n14, sgn_t ht hf htf, sgn_f ht hf htf]; omega
      · rw [upd_ne _ _ (fun q => jf ((idx_inj hfN hj).1 q).2), upd_ne _ _ (fun q => jt ((idx_inj htN hj).1 q).2), upd_ne _ _ (fun q => jt ((idx_inj htN hj).1 q).2), upd_ne _ _ (fun q => jf ((idx_inj hfN hj).1 q).2), sgn_o ht hf jt jf]; omega
  · by_cases jf0 : f = i
    · subst jf0
      by_cases jt : t = j
      · subst jt
        rw [upd_ne _ _ (fun q => n34 q.symm), upd_same, upd_ne _ _ n23, upd_ne _ _ n13, sgn_t ht hf htf, sgn_f ht hf htf]; omega
      · by_cases jf : f = j
        · subst jf
          rw [upd_ne _ _ (fun q => n14 q.symm), upd_ne _ _ (fun q => n13 q.symm), upd_ne _ _ (fun q => n12 q.symm), upd_same, sgn_f ht hf htf]; omega
        · rw [upd_ne _ _ (fun q => jf ((idx_inj hfN hj).1 q).2), upd_ne _ _ (fun q => jt ((idx_inj htN hj).1 q).2), upd_ne _ _ (fun q => jt ((idx_inj htN hj).1 q).2), upd_ne _ _ (fun q => jf ((idx_inj hfN hj).1 q).2), sgn_o ht hf jt jf]; omega
    · rw [upd_ne _ _ (fun q => it ((idx_inj hfN hj).1 q).1), upd_ne _ _ (fun q => jf0 ((idx_inj htN hj).1 q).1), upd_ne _ _ (fun q => it ((idx_inj htN hj).1 q).1), upd_ne _ _ (fun q => jf0 ((idx_inj hfN hj).1 q).1), sgn_o ht hf it jf0]; omega
/-- The four cells of a run. -/
theorem four_cells {N : Nat} (hN : N ≤ 6) {L : List Int} (hL : L.length = N * N) {y : Run} (hy : rvB (N : Int) y = true) (hbd : ∀ i j : Nat, i < N → j < N → -200 ≤ rd L ((i * N + j : Nat) : Int) ∧ rd L ((i * N + j : Nat) : Int) ≤ 200) :
    ∃ L1 L2 L3 L4, impl_cells_add.f (N : Int) L y.f0 y.f0 y.f3 = some L1 ∧ impl_cells_add.f (N : Int) L1 y.f1 y.f1 y.f3 = some L2 ∧ impl_cells_add.f (N : Int) L2 y.f0 y.f1 (wrap64 (-y.f3)) = some L3 ∧ impl_cells_add.f (N : Int) L3 y.f1 y.f0 (wrap64 (-y.f3)) = some L4 ∧
      L4.length = N * N ∧ ∀ i j : Nat, i < N → j < N → rd L4 ((i * N + j : Nat) : Int) = rd L ((i * N + j : Nat) : Int) + y.f3 * (sgnE y (i : Int) * sgnE y (j : Int)) := by
  have hv := rvB_iff.1 hy
  obtain ⟨t, ht⟩ : ∃ t : Nat, y.f1 = t := ⟨y.f1.toNat, by omega⟩
  obtain ⟨f, hf⟩ : ∃ f : Nat, y.f0 = f := ⟨y.f0.toNat, by omega⟩
  have htf : t ≠ f := by omega
  have htN : t < N := by omega
  have hfN : f < N := by omega
  have bff := hbd f f hfN hfN
  have btt := hbd t t htN htN
  have bft := hbd f t hfN htN
  have btf := hbd t f htN hfN
  have hw : 1 ≤ y.f3 ∧ y.f3 ≤ 9 := hv.2.2
  have n12 : f * N + f ≠ t * N + t := fun q => htf ((idx_inj hfN htN).1 q).1.symm
  have n13 : f * N + f ≠ f * N + t := fun q => htf ((idx_inj hfN htN).1 q).2.symm
  have n14 : f * N + f ≠ t * N + f := fun q => htf ((idx_inj hfN hfN).1 q).1.symm
  have n23 : t * N + t ≠ f * N + t := fun q => htf ((idx_inj htN htN).1 q).1
  have n24 : t * N + t ≠ t * N + f := fun q => htf ((idx_inj htN hfN).1 q).2
  have n34 : f * N + t ≠ t * N + f := fun q => htf ((idx_inj htN hfN).1 q).2
  have step : ∀ (M : List Int) (a b : Nat) (w : Int), M.length = N * N → a < N → b < N → -10 ≤ w ∧ w ≤ 10 → -1000 ≤ rd M ((a * N + b : Nat) : Int) ∧ rd M ((a * N + b : Nat) : Int) ≤ 1000 →
      ∃ M', impl_cells_add.f (N : Int) M (a : Int) (b : Int) w = some M' ∧ M'.length = N * N ∧ ∀ q : Nat, rd M' (q : Int) = upd (fun q => rd M (q : Int)) (a * N + b) w q := by
    intro M a b w hM ha hb hw hr
    refine ⟨_, cells_add_eq hN hM ha hb hw hr, by rw [List.length_set]; exact hM, fun q => ?_⟩
    rw [rd_setn (by rw [hM]; exact idx_lt ha hb)]; rfl
  rw [ht, hf, nw64 (x := -y.f3) (by omega) (by omega)]
  obtain ⟨L1, e1, l1, r1⟩ := step L f f y.f3 hL hfN hfN (by omega) (by omega)
  have v1 : rd L1 ((t * N + t : Nat) : Int) = rd L ((t * N + t : Nat) : Int) := by rw [r1, upd_ne _ _ n12]
  obtain ⟨L2, e2, l2, r2⟩ := step L1 t t y.f3 l1 htN htN (by omega) (by omega)
  have v2 : rd L2 ((f * N + t : Nat) : Int) = rd L ((f * N + t : Nat) : Int) := by rw [r2, upd_ne _ _ n23, r1, upd_ne _ _ n13]
  obtain ⟨L3, e3, l3, r3⟩ := step L2 f t (-y.f3) l2 hfN htN (by omega) (by omega)
  have v3 : rd L3 ((t * N + f : Nat) : Int) = rd L ((t * N + f : Nat) : Int) := by rw [r3, upd_ne _ _ n34, r2, upd_ne _ _ n24, r1, upd_ne _ _ n14]
  obtain ⟨L4, e4, l4, r4⟩ := step L3 t f (-y.f3) l3 htN hfN (by omega) (by omega)
  refine ⟨L1, L2, L3, L4, e1, e2, e3, e4, l4, fun i j hi hj => ?_⟩
  have g3 : (fun q : Nat => rd L3 (q : Int)) = upd (fun q => rd L2 (q : Int)) (f * N + t) (-y.f3) := funext r3
  have g2 : (fun q : Nat => rd L2 (q : Int)) = upd (fun q => rd L1 (q : Int)) (t * N + t) y.f3 := funext r2
  have g1 : (fun q : Nat => rd L1 (q : Int)) = upd (fun q => rd L (q : Int)) (f * N + f) y.f3 := funext r1
  rw [r4, g3, g2, g1]
  exact four_upd ht hf htf htN hfN hj
theorem fullCells_l0 {N : Nat} (hN : N ≤ 6) (suf : List Run) : ∀ (pre : List Run) (L : List Int) (k : Nat), suf.length < k → pre.length + suf.length ≤ 12 → (∀ r ∈ pre ++ suf, rvB (N : Int) r = true) → Lap N L pre →
    ∃ L', impl_fullCells.l0 k (pre ++ suf) ((pre ++ suf).length : Int) (pre.length : Int) (N : Int) L = some ((N : Int), L') ∧ Lap N L' (pre ++ suf) := by
  induction suf with
  | nil =>
    intro pre L k hk _ _ hL
    obtain ⟨k, rfl⟩ : ∃ m, k = m + 1 := ⟨k - 1, by omega⟩
    rw [List.append_nil, impl_fullCells.l0, if_neg (by omega)]
    exact ⟨L, rfl, hL⟩
  | cons y suf ih =>
    intro pre L k hk hl hr hL
    simp only [List.length_cons] at hk hl
    obtain ⟨k, rfl⟩ : ∃ m, k = m + 1 := ⟨k - 1, by omega⟩
    have hy := hr y (by simp)
    obtain ⟨L1, L2, L3, L4, e1, e2, e3, e4, l4, r4⟩ := four_cells hN hL.1 hy (fun i j hi hj => by
      rw [hL.2 i j hi hj]
      have := lapE_bd pre (fun r h => hr r (List.mem_append_left _ h)) (i : Int) (j : Int)
      omega)
    rw [impl_fullCells.l0, if_pos (len_midR _ _ _), if_pos (by omega), if_pos (len_midR _ _ _)]
    simp only [rd_midR, e1, e2, e3, e4, Option.bind_some]
    rw [next_midR pre y (by omega), app_midR pre suf y]
    refine ih (pre ++ [y]) L4 k (by omega) (by simp; omega) (by simpa using hr) ⟨l4, fun i j hi hj => ?_⟩
    rw [lapE_snoc, r4 i j hi hj, hL.2 i j hi hj]
theorem rd_replicate (n q : Nat) : rd (List.replicate n (0 : Int)) (q : Int) = 0 := by
  unfold rd
  simp only [Int.toNat_natCast, List.getD_eq_getElem?_getD, List.getElem?_replicate]
  split <;> simp
/-- A row of the matrix. -/
def matRow (N : Nat) (l : List Run) (i : Nat) : List Int := tab (N - 1) (fun j => lapE l ((i : Int) + 1) ((j : Int) + 1))
theorem without_l1 {N : Nat} (hN : 1 ≤ N ∧ N ≤ 6) {L : List Int} {l : List Run} (hL : Lap N L l) {x7 : List (List Int)} (h7 : x7.length ≤ 6) {i : Nat} (hi : i < N) (c : Nat) : ∀ (j : Nat) (k : Nat), 1 ≤ j → j + c = N →
    impl_cells_without.l1 (k + c + 1) 0 0 x7 (i : Int) (tab (j - 1) (fun j => lapE l (i : Int) ((j : Int) + 1))) (N : Int) (i : Int) (N : Int) (j : Int) (N : Int) L = impl_cells_without.l0 k 0 0 (x7 ++ [tab (N - 1) (fun j => lapE l (i : Int) ((j : Int) + 1))]) (N : Int) (wrap64 ((i : Int) + 1)) (N : Int) L := by
  induction c with
  | zero =>
    intro j k h1 hj
    have : j = N := by omega
    subst this
    rw [Nat.add_zero, impl_cells_without.l1, if_neg (by omega), if_pos (by omega)]
  | succ c ih =>
    intro j k h1 hj
    rw [← Nat.add_assoc, impl_cells_without.l1, if_pos (by omega), if_neg (by omega), if_neg (by omega), cells_at_eq hN.2 hL.1 hi (by omega)]
    simp only [Option.bind_some]
    rw [if_pos (by rw [tab_length]; omega), nw64 (x := (j : Int) + 1) (by omega) (by omega), hL.2 i j hi (by omega)]
    have e : tab (j - 1) (fun j => lapE l (i : Int) ((j : Int) + 1)) ++ [lapE l (i : Int) (j : Int)] = tab (j + 1 - 1) (fun j => lapE l (i : Int) ((j : Int) + 1)) := by
      obtain ⟨m, rfl⟩ : ∃ m, j = m + 1 := ⟨j - 1, by omega⟩
      unfold tab
      rw [show m + 1 + 1 - 1 = m + 1 by omega, List.range_succ, List.map_append]; simp
    rw [e]
    have := ih (j + 1) k (by omega) (by omega)
    rw [show ((j + 1 : Nat) : Int) = (j : Int) + 1 by omega] at this
    exact this
theorem without_l0 {N : Nat} (hN : 1 ≤ N ∧ N ≤ 6) {L : List Int} {l : List Run} (hL : Lap N L l) (d : Nat) : ∀ (i : Nat) (k : Nat), 1 ≤ i → i + d = N → 10 * d < k →
    impl_cells_without.l0 k 0 0 ((List.range (i - 1)).map (matRow N l)) (N : Int) (i : Int) (N : Int) L = some ((List.range (N - 1)).map (matRow N l)) := by
  induction d with
  | zero =>
    intro i k h1 hi hk
    obtain ⟨k, rfl⟩ : ∃ m, k = m + 1 := ⟨k - 1, by omega⟩
    have : i = N := by omega
    subst this
    rw [impl_cells_without.l0, if_neg (by omega)]
  | succ d ih =>
    intro i k h1 hi hk
    obtain ⟨k, rfl⟩ : ∃ m, k = (m + (N - 1) + 2) + 2 := ⟨k - (N - 1) - 4, by omega⟩
    rw [impl_cells_without.l0, if_pos (by omega), if_neg (by omega), impl_cells_without.j1, if_neg (by simp; omega)]
    have e0 : impl_cells_without.l1 (k + (N - 1) + 2) 0 0 ((List.range (i - 1)).map (matRow N l)) (i : Int) [] (N : Int) (i : Int) (N : Int) 0 (N : Int) L = impl_cells_without.l1 (k + (N - 1) + 1) 0 0 ((List.range (i - 1)).map (matRow N l)) (i : Int) [] (N : Int) (i : Int) (N : Int) 1 (N : Int) L := by
      rw [impl_cells_without.l1, if_pos (by omega), if_pos rfl, nw64 (by omega) (by omega)]; rfl
    have e1 := without_l1 hN hL (x7 := (List.range (i - 1)).map (matRow N l)) (by simp; omega) (i := i) (by omega) (N - 1) 1 k (by omega) (by omega)
    have et : tab (1 - 1) (fun j => lapE l (i : Int) ((j : Int) + 1)) = [] := rfl
    rw [et] at e1
    rw [e0, show (1 : Int) = ((1 : Nat) : Int) from rfl, e1, nw64 (by omega) (by omega)]
    have em : (List.range (i - 1)).map (matRow N l) ++ [tab (N - 1) (fun j => lapE l (i : Int) ((j : Int) + 1))] = (List.range (i + 1 - 1)).map (matRow N l) := by
      obtain ⟨m, rfl⟩ : ∃ m, i = m + 1 := ⟨i - 1, by omega⟩
      rw [show m + 1 + 1 - 1 = m + 1 by omega, List.range_succ, List.map_append]; simp [matRow]
    rw [em]
    have := ih (i + 1) k (by omega) (by omega) (by omega)
    rw [show ((i + 1 : Nat) : Int) = (i : Int) + 1 by omega] at this
    exact this
/-- What the program's NetMatrix answers. -/
def matrixR (n : Int) (l : List Run) : List (List Int) × Bool := if nvB n l = true then ((List.range (n.toNat - 1)).map (matRow n.toNat l), true) else ([], false)
theorem impl_NetMatrix_eq (k : Nat) (n : Int) (l : List Run) (hk : 200 < k) : impl_NetMatrix.f k n l = some (matrixR n l) := by
  obtain ⟨k, rfl⟩ : ∃ m, k = m + 2 := ⟨k - 2, by omega⟩
  unfold impl_NetMatrix.f matrixR
  rw [impl_NetValid_eq _ n l (by omega)]
  simp only [Option.bind_some]
  by_cases h : nvB n l = true
  · have hv := nvB_iff.1 h
    obtain ⟨N, rfl⟩ : ∃ N : Nat, n = N := ⟨n.toNat, by omega⟩
    have h36 : N * N ≤ 36 := Nat.mul_le_mul (show N ≤ 6 by omega) (show N ≤ 6 by omega)
    have e : (N : Int) * (N : Int) = ((N * N : Nat) : Int) := by rw [Int.natCast_mul]
    rw [if_pos h, if_pos h]
    unfold impl_fullCells.f impl_newCells.f
    rw [e, nw64 (x := ((N * N : Nat) : Int)) (by omega) (by omega), if_pos (by omega), if_pos (by omega), Int.toNat_natCast]
    simp only [Option.bind_some]
    obtain ⟨L, e0, hL⟩ := fullCells_l0 (N := N) (by omega) l [] (List.replicate (N * N) 0) (k + 2) (by omega) (by simp; omega) (by simpa using hv.2) ⟨by simp, fun i j _ _ => by rw [rd_replicate]; rfl⟩
    simp only [List.nil_append, List.length_nil] at e0 hL
    rw [show ((0 : Nat) : Int) = 0 from rfl] at e0
    rw [e0]
    simp only [Option.bind_some]
    unfold impl_cells_without.f
    have e1 : impl_cells_without.l0 (k + 2) 0 0 [] (N : Int) 0 (N : Int) L = impl_cells_without.l0 k 0 0 [] (N : Int) 1 (N : Int) L := by
      rw [impl_cells_without.l0, if_pos (by omega), if_pos rfl, impl_cells_without.j1, if_pos rfl, nw64 (by omega) (by omega)]; rfl
    have e2 := without_l0 (N := N) (by omega) hL (N - 1) 1 k (by omega) (by omega) (by omega)
    have et : (List.range (1 - 1)).map (matRow N l) = [] := rfl
    rw [et] at e2
    rw [e1, show (1 : Int) = ((1 : Nat) : Int) from rfl, e2, Int.toNat_natCast]
    rfl
  · rw [if_neg h, if_neg h]
end Go.Proofs.Ytimhiijedmfeaaa.Pure
