/- What whole shares are: the shares rounded down, and 1 more for those with the greatest remainders; plain laws of sums. -/
import Derived.Test.YtfmjhckndlngaaaSpecShare
namespace Go.Proofs.Ytfmjhckndlngaaa.Pure
open Go.RowKit Go.Proofs.Ytfmjhckndlngaaa.Q Go.Proofs.YtfmjhckndlngaaaW.PrintWords Go.Proofs.YtfmjhckndlngaaaW.PrintLast Go.Proofs.YtfmjhckndlngaaaW.PrintMore
set_option linter.unusedVariables false
/-- Sums. -/
def sg : Nat → (Nat → Int) → Int
  | 0, _ => 0
  | n + 1, f => sg n f + f n
theorem sg_le (n : Nat) {f g : Nat → Int} (h : ∀ i, i < n → f i ≤ g i) : sg n f ≤ sg n g := by
  induction n with
  | zero => exact Int.le_refl _
  | succ n ih => have := ih (fun i hi => h i (by omega)); have := h n (by omega); simp only [sg]; omega
theorem sg_congr (n : Nat) {f g : Nat → Int} (h : ∀ i, i < n → f i = g i) : sg n f = sg n g := by
  induction n with
  | zero => rfl
  | succ n ih => simp only [sg]; rw [ih (fun i hi => h i (by omega)), h n (by omega)]
theorem sg_add (n : Nat) (f g : Nat → Int) : sg n (fun i => f i + g i) = sg n f + sg n g := by
  induction n with
  | zero => rfl
  | succ n ih => simp only [sg]; rw [ih]; omega
theorem sg_mul (n : Nat) (f : Nat → Int) (c : Int) : sg n (fun i => f i * c) = sg n f * c := by
  induction n with
  | zero => simp [sg]
  | succ n ih => simp only [sg]; rw [ih, Int.add_mul]
theorem sg_front (n : Nat) (f : Nat → Int) : sg (n + 1) f = f 0 + sg n (fun i => f (i + 1)) := by
  induction n with
  | zero => simp [sg]
  | succ n ih => rw [sg, ih]; simp only [sg]; omega
theorem sg_upd (n : Nat) {f g : Nat → Int} {i0 : Nat} (h0 : i0 < n) (c : Int) (h1 : f i0 = g i0 + c) (h2 : ∀ i, i < n → i ≠ i0 → f i = g i) : sg n f = sg n g + c := by
  induction n with
  | zero => omega
  | succ n ih =>
    simp only [sg]
    by_cases e : i0 = n
    · subst e
      rw [sg_congr i0 (fun i hi => h2 i (by omega) (by omega))]; omega
    · rw [ih (by omega) (fun i hi hne => h2 i (by omega) hne), h2 n (by omega) (fun q => e q.symm)]; omega
theorem rd_cons_succ (y : Int) (s : List Int) (i : Nat) : rd (y :: s) ((i + 1 : Nat) : Int) = rd s (i : Int) := by
  unfold rd
  rw [show (((i + 1 : Nat) : Int)).toNat = i + 1 by omega, Int.toNat_natCast]; simp
theorem rd_cons_zero (y : Int) (s : List Int) : rd (y :: s) ((0 : Nat) : Int) = y := by simp [rd]
theorem sum_sg (l : List Int) : l.sum = sg l.length (fun i => rd l (i : Int)) := by
  induction l with
  | nil => rfl
  | cons y l ih =>
    rw [List.sum_cons, List.length_cons, sg_front, rd_cons_zero, ih]
    exact congrArg (y + ·) (sg_congr _ (fun i _ => (rd_cons_succ y l i).symm))
theorem rd_map' (f : Int → Int) (l : List Int) (i : Nat) (hi : i < l.length) : rd (l.map f) (i : Int) = f (rd l (i : Int)) := by
  unfold rd
  rw [Int.toNat_natCast, List.getD_eq_getElem?_getD, List.getD_eq_getElem?_getD, List.getElem?_map, List.getElem?_eq_getElem hi]
  rfl
theorem rd_mem {l : List Int} {i : Nat} (hi : i < l.length) : rd l (i : Int) ∈ l := by
  unfold rd
  rw [Int.toNat_natCast, List.getD_eq_getElem?_getD, List.getElem?_eq_getElem hi]
  exact List.getElem_mem hi
theorem rd_set_o {r : List Int} {i j : Nat} (x : Int) (h : i ≠ j) : rd (r.set j x) (i : Int) = rd r (i : Int) := by
  unfold rd
  rw [Int.toNat_natCast, List.getD_eq_getElem?_getD, List.getD_eq_getElem?_getD, List.getElem?_set_ne (fun e => h e.symm)]
theorem rd_set_s {r : List Int} {j : Nat} (x : Int) (h : j < r.length) : rd (r.set j x) (j : Int) = x := by
  unfold rd
  rw [Int.toNat_natCast, List.getD_eq_getElem?_getD, List.getElem?_set_self h]; rfl
/-- A list is told by its length and what it holds. -/
theorem rd_ext {s t : List Int} (h : s.length = t.length) (k : ∀ i : Nat, i < s.length → rd s (i : Int) = rd t (i : Int)) : s = t := by
  apply List.ext_getElem h
  intro i h1 h2
  have := k i h1
  unfold rd at this
  rw [Int.toNat_natCast, List.getD_eq_getElem?_getD, List.getD_eq_getElem?_getD, List.getElem?_eq_getElem h1, List.getElem?_eq_getElem h2] at this
  exact this
theorem mem_rd {l : List Int} {x : Int} (h : x ∈ l) : ∃ i : Nat, i < l.length ∧ rd l (i : Int) = x := by
  obtain ⟨i, hi, rfl⟩ := List.getElem_of_mem h
  refine ⟨i, hi, ?_⟩
  unfold rd
  rw [Int.toNat_natCast, List.getD_eq_getElem?_getD, List.getElem?_eq_getElem hi]; rfl
theorem nextI_max {r : List Int} (suf : List Int) : ∀ (pre : List Int) (b : Nat), r = pre ++ suf → (∀ k : Nat, k < pre.length → rd r (k : Int) ≤ rd r (b : Int)) → ∀ k : Nat, k < r.length → rd r (k : Int) ≤ rd r (nextI r suf pre.length b : Int) := by
  induction suf with
  | nil =>
    intro pre b hr h k hk
    simp only [nextI]
    exact h k (by rw [hr] at hk; simpa using hk)
  | cons y suf ih =>
    intro pre b hr h
    have hy : rd r (pre.length : Int) = y := by rw [hr]; exact rd_mid pre suf y
    have hr' : r = (pre ++ [y]) ++ suf := by rw [hr]; simp
    have hl' : (pre ++ [y]).length = pre.length + 1 := by simp
    simp only [nextI]
    rw [← hl']
    by_cases c : y > rd r (b : Int)
    · rw [if_pos c]
      refine ih (pre ++ [y]) pre.length hr' (fun k hk => ?_)
      by_cases e : k = pre.length
      · rw [e]; exact Int.le_refl _
      · have := h k (by omega); omega
    · rw [if_neg c]
      refine ih (pre ++ [y]) b hr' (fun k hk => ?_)
      by_cases e : k = pre.length
      · rw [e]; omega
      · exact h k (by omega)
theorem nextR_max (r : List Int) : ∀ k : Nat, k < r.length → rd r (k : Int) ≤ rd r (nextR r : Int) :=
  nextI_max r [] 0 rfl (fun k hk => absurd hk (by simp))
/-- How many are still there. -/
def cnt (r : List Int) : Int := sg r.length (fun i => if 0 ≤ rd r (i : Int) then 1 else 0)
theorem cnt_ex {n : Nat} {f : Nat → Int} (h : 0 < sg n (fun i => if 0 ≤ f i then 1 else 0)) : ∃ k, k < n ∧ 0 ≤ f k := by
  induction n with
  | zero => simp [sg] at h
  | succ n ih =>
    by_cases c : 0 ≤ f n
    · exact ⟨n, by omega, c⟩
    · simp only [sg] at h
      rw [if_neg c] at h
      obtain ⟨k, h1, h2⟩ := ih (by omega)
      exact ⟨k, by omega, h2⟩
theorem bd_ex (n : Nat) (f : Nat → Int) : ∃ t, ∀ i, i < n → f i ≤ t := by
  induction n with
  | zero => exact ⟨0, fun i hi => by omega⟩
  | succ n ih =>
    obtain ⟨t, h⟩ := ih
    by_cases c : f n ≤ t
    · exact ⟨t, fun i hi => by by_cases e : i = n; (subst e; exact c); exact h i (by omega)⟩
    · exact ⟨f n, fun i hi => by by_cases e : i = n; (subst e; exact Int.le_refl _); have := h i (by omega); omega⟩
theorem pick_spec (m : Nat) : ∀ (out r : List Int), out.length = r.length → (m : Int) ≤ cnt r → ∃ (p : Nat → Int) (t : Int), sg r.length p = m ∧ ∀ i : Nat, i < r.length → rd (pickN m out r) (i : Int) = rd out (i : Int) + p i ∧ (p i = 0 ∨ p i = 1) ∧ (p i = 1 → t ≤ rd r (i : Int) ∧ 0 ≤ rd r (i : Int)) ∧ (p i = 0 → rd r (i : Int) ≤ t) := by
  induction m with
  | zero =>
    intro out r h _
    obtain ⟨t, ht⟩ := bd_ex r.length (fun i => rd r (i : Int))
    refine ⟨fun _ => 0, t, ?_, fun i hi => ⟨by simp [pickN], Or.inl rfl, fun q => by simp at q, fun _ => ht i hi⟩⟩
    have : sg r.length (fun _ => (0 : Int)) = 0 := by
      generalize r.length = n
      induction n with
      | zero => rfl
      | succ n ih => simp only [sg]; rw [ih]; rfl
    rw [this]; rfl
  | succ m ih =>
    intro out r h hm
    obtain ⟨k, hk, hk0⟩ := cnt_ex (n := r.length) (f := fun i => rd r (i : Int)) (by unfold cnt at hm; omega)
    have hi0 := nextR_lt (r := r) (by omega)
    have hmax := nextR_max r
    have h00 : 0 ≤ rd r (nextR r : Int) := by have := hmax k hk; omega
    generalize hi : nextR r = i0 at hi0 hmax h00
    have hc : cnt r = cnt (r.set i0 (-1)) + 1 := by
      unfold cnt
      rw [List.length_set]
      refine sg_upd r.length hi0 1 ?_ (fun i _ hne => ?_)
      · rw [rd_set_s _ hi0, if_pos h00]; rfl
      · rw [rd_set_o _ hne]
    obtain ⟨p, t, hs, hp⟩ := ih (out.set i0 (rd out i0 + 1)) (r.set i0 (-1)) (by simp [h]) (by omega)
    rw [List.length_set] at hs hp
    have hp0 : p i0 = 0 := by
      obtain ⟨_, q, q1, _⟩ := hp i0 hi0
      rcases q with q | q
      · exact q
      · have := (q1 q).2; rw [rd_set_s _ hi0] at this; omega
    obtain ⟨t2, ht1, ht2, ht3⟩ : ∃ t2, t2 ≤ t ∧ t2 ≤ rd r (i0 : Int) ∧ (t2 = t ∨ t2 = rd r (i0 : Int)) := by
      by_cases c : t ≤ rd r (i0 : Int)
      · exact ⟨t, by omega, c, Or.inl rfl⟩
      · exact ⟨rd r (i0 : Int), by omega, by omega, Or.inr rfl⟩
    refine ⟨fun i => if i = i0 then 1 else p i, t2, ?_, fun i hi' => ?_⟩
    · rw [sg_upd (g := p) r.length hi0 1 (by rw [if_pos rfl, hp0]; rfl) (fun i _ hne => by rw [if_neg hne]), hs]; omega
    · simp only [pickN]
      rw [hi]
      obtain ⟨e1, e2, e3, e4⟩ := hp i hi'
      by_cases e : i = i0
      · subst e
        rw [if_pos rfl, e1, rd_set_s _ (by omega), hp0]
        exact ⟨by omega, Or.inr rfl, fun _ => ⟨ht2, h00⟩, fun q => by omega⟩
      · rw [if_neg e, e1, rd_set_o _ e]
        rw [rd_set_o _ e] at e3 e4
        refine ⟨rfl, e2, fun q => ⟨by have := (e3 q).1; omega, (e3 q).2⟩, fun q => ?_⟩
        have := e4 q
        have := hmax i hi'
        omega
theorem cnt_all {r : List Int} (h : ∀ i : Nat, i < r.length → 0 ≤ rd r (i : Int)) : cnt r = r.length := by
  unfold cnt
  rw [sg_congr (g := fun _ => 1) _ (fun i hi => by rw [if_pos (h i hi)])]
  generalize r.length = n
  induction n with
  | zero => rfl
  | succ n ih => simp only [sg]; rw [ih]; omega
/-- What is known of the shares. -/
structure SP (l : List Int) (a : Int) (out : List Int) (f R p : Nat → Int) (t : Int) : Prop where
  len : out.length = l.length
  out_ : ∀ i : Nat, i < l.length → rd out (i : Int) = f i + p i
  fr : ∀ i : Nat, i < l.length → f i * l.sum + R i = a * rd l (i : Int)
  rb : ∀ i : Nat, i < l.length → 0 ≤ R i ∧ R i < l.sum
  pb : ∀ i : Nat, i < l.length → p i = 0 ∨ p i = 1
  p1 : ∀ i : Nat, i < l.length → p i = 1 → t ≤ R i ∧ 0 < R i
  p0 : ∀ i : Nat, i < l.length → p i = 0 → R i ≤ t
  tb : 0 ≤ t ∧ t ≤ l.sum
  sum : sg l.length p = a - sg l.length f
theorem share_SP {l : List Int} {a : Int} (h : AV l a) : ∃ p t, SP l a (pickN (a - (fl l a).sum).toNat (fl l a) (rs l a)) (fun i => a * rd l (i : Int) / l.sum) (fun i => a * rd l (i : Int) % l.sum) p t := by
  have hs := h.1.sum
  have hfl : (fl l a).length = l.length := by simp [fl]
  have hrl : (rs l a).length = l.length := by simp [rs]
  have hf : ∀ i : Nat, i < l.length → rd (fl l a) (i : Int) = a * rd l (i : Int) / l.sum := fun i hi => by unfold fl; rw [rd_map' _ _ _ hi]
  have hr : ∀ i : Nat, i < l.length → rd (rs l a) (i : Int) = a * rd l (i : Int) % l.sum := fun i hi => by unfold rs; rw [rd_map' _ _ _ hi]
  have rb : ∀ i : Nat, i < l.length → 0 ≤ a * rd l (i : Int) % l.sum ∧ a * rd l (i : Int) % l.sum < l.sum := fun i _ => ⟨Int.emod_nonneg _ (by omega), Int.emod_lt_of_pos _ hs.1⟩
  have fr : ∀ i : Nat, i < l.length → a * rd l (i : Int) / l.sum * l.sum + a * rd l (i : Int) % l.sum = a * rd l (i : Int) := fun i _ => by
    have := Int.mul_ediv_add_emod (a * rd l (i : Int)) l.sum
    rw [Int.mul_comm] at this; exact this
  have hmb := missing_bd h
  have hc : cnt (rs l a) = l.length := by rw [cnt_all (fun i hi => by rw [hr i (by omega)]; exact (rb i (by omega)).1), hrl]
  obtain ⟨p, t, hsum, hp⟩ := pick_spec (a - (fl l a).sum).toNat (fl l a) (rs l a) (by omega) (by omega)
  rw [hrl] at hsum hp
  have hsf : (fl l a).sum = sg l.length (fun i => a * rd l (i : Int) / l.sum) := by
    rw [sum_sg, hfl]; exact sg_congr _ (fun i hi => hf i hi)
  have hsum2 : sg l.length p = a - sg l.length (fun i => a * rd l (i : Int) / l.sum) := by rw [← hsf]; omega
  -- the sum of the remainders
  have hsr : sg l.length (fun i => a * rd l (i : Int) % l.sum) = (a - sg l.length (fun i => a * rd l (i : Int) / l.sum)) * l.sum := by
    have e1 : sg l.length (fun i => a * rd l (i : Int) / l.sum * l.sum + a * rd l (i : Int) % l.sum) = sg l.length (fun i => rd l (i : Int) * a) := sg_congr _ (fun i hi => by rw [fr i hi, Int.mul_comm])
    rw [sg_add, sg_mul, sg_mul, ← sum_sg, Int.mul_comm l.sum a] at e1
    rw [Int.sub_mul]; omega
  generalize hF : (fun i : Nat => a * rd l (i : Int) / l.sum) = F at *
  have pos : ∀ i : Nat, i < l.length → p i = 1 → 0 < a * rd l (i : Int) % l.sum := by
    intro i hi hpi
    obtain ⟨_, _, q1, _⟩ := hp i hi
    have q := q1 hpi
    rw [hr i hi] at q
    rcases Int.lt_or_le 0 (a * rd l (i : Int) % l.sum) with c | c
    · exact c
    · exfalso
      have hle : sg l.length (fun i => a * rd l (i : Int) % l.sum) ≤ sg l.length (fun i => p i * (l.sum - 1)) := by
        refine sg_le _ (fun k hk => ?_)
        obtain ⟨_, b, _, b4⟩ := hp k hk
        have b5 := rb k hk
        rcases b with b | b
        · have := b4 b
          rw [hr k hk] at this
          rw [b, Int.zero_mul]; omega
        · rw [b, Int.one_mul]; omega
      rw [sg_mul, hsum2, hsr, Int.mul_sub] at hle
      have h1 : 1 ≤ sg l.length p := by
        have : sg l.length (fun k => if k = i then 1 else 0) ≤ sg l.length p := sg_le _ (fun k hk => by
          obtain ⟨_, b, _, _⟩ := hp k hk
          by_cases e : k = i
          · subst e; rw [if_pos rfl]; omega
          · rw [if_neg e]; omega)
        have e2 : sg l.length (fun k => if k = i then 1 else 0) = sg l.length (fun _ => (0 : Int)) + 1 := sg_upd _ hi 1 (by rw [if_pos rfl]; rfl) (fun k _ hk => by rw [if_neg hk])
        have e3 : sg l.length (fun _ => (0 : Int)) = sg l.length (fun i => 0 * (0 : Int)) := sg_congr _ (fun _ _ => by simp)
        rw [sg_mul, Int.mul_zero] at e3
        omega
      rw [hsum2] at h1
      omega
  obtain ⟨t2, g1, g2, g3⟩ : ∃ t2, (0 ≤ t2 ∧ t2 ≤ l.sum) ∧ (∀ x, 0 ≤ x → t ≤ x → t2 ≤ x) ∧ (∀ x, x < l.sum → x ≤ t → x ≤ t2) := by
    by_cases c : t < 0
    · exact ⟨0, by omega, fun x h1 h2 => by omega, fun x h1 h2 => by omega⟩
    · by_cases c2 : t ≤ l.sum
      · exact ⟨t, by omega, fun x h1 h2 => by omega, fun x h1 h2 => by omega⟩
      · exact ⟨l.sum, by omega, fun x h1 h2 => by omega, fun x h1 h2 => by omega⟩
  refine ⟨p, t2, ⟨by rw [pickN_length, hfl], fun i hi => ?_, fun i hi => ?_, rb, fun i hi => (hp i hi).2.1, fun i hi q => ?_, fun i hi q => ?_, g1, hsum2⟩⟩
  · rw [(hp i hi).1, hf i hi, ← hF]
  · rw [← hF]; exact fr i hi
  · have b := (hp i hi).2.2.1 q
    rw [hr i hi] at b
    exact ⟨g2 _ b.2 b.1, pos i hi q⟩
  · have b := (hp i hi).2.2.2 q
    rw [hr i hi] at b
    exact g3 _ (rb i hi).2 b
end Go.Proofs.Ytfmjhckndlngaaa.Pure
