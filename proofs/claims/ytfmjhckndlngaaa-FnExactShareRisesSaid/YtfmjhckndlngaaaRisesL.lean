/- ShareRises in closed form. -/
import Derived.Test.YtfmjhckndlngaaaShareB
import Derived.Test.YtfmjhckndlngaaaQ11
import Derived.Test.YtfmjhckndlngaaaQ13
import Derived.Test.YtfmjhckndlngaaaQ14
namespace Go.Proofs.Ytfmjhckndlngaaa.Pure
open Go.RowKit Go.Proofs.Ytfmjhckndlngaaa.Q Go.Proofs.YtfmjhckndlngaaaW.PrintWords Go.Proofs.YtfmjhckndlngaaaW.PrintLast
/-- Sums at the same place. -/
def zipA : List Int → List Int → List Int
  | x :: s, y :: t => (x + y) :: zipA s t
  | _, _ => []
theorem zipA_len : ∀ (s t : List Int), s.length = t.length → (zipA s t).length = s.length
  | [], [], _ => rfl
  | x :: s, y :: t, h => by simp only [zipA, List.length_cons]; rw [zipA_len s t (by simpa using h)]
/-- Rises in range. -/
def RV (h : List Int) : Prop := ∀ x ∈ h, -100000 ≤ x ∧ x ≤ 100000
instance (h : List Int) : Decidable (RV h) := by unfold RV; infer_instance
def risR (l h : List Int) : List Int × Bool := if LV l ∧ h.length = l.length ∧ RV h then (zipA h (shR l (-h.sum)).1, true) else ([], false)
theorem spec_R_l1 (suf : List Int) : ∀ (pre pres sufs o : List Int) (k : Nat), suf.length < k → pre.length = pres.length → suf.length = sufs.length → o.length = pre.length → pre.length + suf.length ≤ 1000 → (∀ x ∈ suf, -100000 ≤ x ∧ x ≤ 100000) → (∀ x ∈ sufs, -10000001 ≤ x ∧ x ≤ 10000001) →
    spec_ShareRises.l1 k (pre ++ suf) o (pres ++ sufs) (pre.length : Int) = some (o ++ zipA suf sufs, true) := by
  induction suf with
  | nil =>
    intro pre pres sufs o k hk _ h1 _ _ _ _
    obtain ⟨k, rfl⟩ : ∃ m, k = m + 1 := ⟨k - 1, by omega⟩
    obtain rfl : sufs = [] := by cases sufs with | nil => rfl | cons _ _ => simp at h1
    simp [spec_ShareRises.l1, zipA]
  | cons y suf ih =>
    intro pre pres sufs o k hk hp h1 ho hl hb hbs
    cases sufs with
    | nil => simp at h1
    | cons z sufs =>
      simp only [List.length_cons] at hk hl h1
      obtain ⟨k, rfl⟩ : ∃ m, k = m + 1 := ⟨k - 1, by omega⟩
      simp only [spec_ShareRises.l1]
      have by_ := hb y List.mem_cons_self
      have bz := hbs z List.mem_cons_self
      have rz : rd (pres ++ z :: sufs) (pre.length : Int) = z := by rw [hp]; exact rd_mid pres sufs z
      rw [if_pos (len_mid _ _ _), if_pos (by omega), if_pos (by rw [hp]; exact len_mid _ _ _), if_pos (by omega), rd_mid, rz, next_mid pre y (by omega), app_mid pre suf y, app_mid pres sufs z, sw64 (by omega) (by omega)]
      rw [ih (pre ++ [y]) (pres ++ [z]) sufs (o ++ [y + z]) k (by omega) (by simp [hp]) (by omega) (by simp [ho]) (by simp; omega) (fun x hx => hb x (List.mem_cons_of_mem _ hx)) (fun x hx => hbs x (List.mem_cons_of_mem _ hx))]
      simp [zipA]
theorem impl_R_l1 (suf : List Int) : ∀ (pre pres sufs : List Int) (k : Nat), suf.length < k → pre.length = pres.length → suf.length = sufs.length → pre.length + suf.length ≤ 1000 → (∀ x ∈ suf, -100000 ≤ x ∧ x ≤ 100000) → (∀ x ∈ sufs, -10000001 ≤ x ∧ x ≤ 10000001) →
    impl_ShareRises.l1 k (pres ++ sufs) (pre ++ suf) ((pre ++ suf).length : Int) (pre.length : Int) = some (pres ++ zipA suf sufs, true) := by
  induction suf with
  | nil =>
    intro pre pres sufs k hk _ h1 _ _ _
    obtain ⟨k, rfl⟩ : ∃ m, k = m + 1 := ⟨k - 1, by omega⟩
    obtain rfl : sufs = [] := by cases sufs with | nil => rfl | cons _ _ => simp at h1
    simp [impl_ShareRises.l1, zipA]
  | cons y suf ih =>
    intro pre pres sufs k hk hp h1 hl hb hbs
    cases sufs with
    | nil => simp at h1
    | cons z sufs =>
      simp only [List.length_cons] at hk hl h1
      obtain ⟨k, rfl⟩ : ∃ m, k = m + 1 := ⟨k - 1, by omega⟩
      simp only [impl_ShareRises.l1]
      have by_ := hb y List.mem_cons_self
      have bz := hbs z List.mem_cons_self
      have rz : rd (pres ++ z :: sufs) (pre.length : Int) = z := by rw [hp]; exact rd_mid pres sufs z
      have sz : (pres ++ z :: sufs).set ((pre.length : Int)).toNat (z + y) = (pres ++ [y + z]) ++ sufs := by rw [hp, set_mid, Int.add_comm]; simp
      rw [if_pos (len_mid _ _ _), if_pos (by omega), if_pos (len_mid _ _ _), if_pos (by rw [hp]; exact len_mid _ _ _), rd_mid, rz, sw64 (x := z + y) (by omega) (by omega), sz, next_mid pre y (by omega), app_mid pre suf y]
      rw [ih (pre ++ [y]) (pres ++ [y + z]) sufs k (by omega) (by simp [hp]) (by omega) (by simp; omega) (fun x hx => hb x (List.mem_cons_of_mem _ hx)) (fun x hx => hbs x (List.mem_cons_of_mem _ hx))]
      simp [zipA]
/-- The shares of valid lengths and of an amount in range: in range, so many as lengths. -/
theorem shR_ok {l : List Int} {a : Int} (h : AV l a) : (shR l a).2 = true ∧ (shR l a).1.length = l.length ∧ ∀ x ∈ (shR l a).1, -10000001 ≤ x ∧ x ≤ 10000001 := by
  obtain ⟨p, t, hSP⟩ := share_SP h
  have e : shR l a = (pickN (a - (fl l a).sum).toNat (fl l a) (rs l a), true) := by unfold shR; rw [if_pos h]
  rw [e]
  refine ⟨rfl, hSP.len, fun x hx => ?_⟩
  obtain ⟨i, hi, rfl⟩ := mem_rd hx
  exact hSP.bd h i (by have := hSP.len; simp only [] at hi; omega)
theorem RV.sum {h : List Int} (hr : RV h) : -((h.length * 100000 : Nat) : Int) ≤ h.sum ∧ h.sum ≤ (h.length * 100000 : Nat) := sum_bd (B := 100000) h (fun x hx => by have := hr x hx; omega)
theorem spec_R_l0 {l h : List Int} (hL : LV l) (hlen : h.length = l.length) (suf : List Int) : ∀ (pre : List Int) (k : Nat), suf.length + 260 < k → h = pre ++ suf →
    spec_ShareRises.l0 k l h [] (pre.length : Int) = some (if RV suf then (zipA h (shR l (-h.sum)).1, true) else ([], false)) ∨ ¬ RV pre := by
  have h20 := hL.2.2.1
  induction suf with
  | nil =>
    intro pre k hk hh
    by_cases hpre : RV pre
    · left
      obtain ⟨k, rfl⟩ : ∃ m, k = m + 1 := ⟨k - 1, by omega⟩
      rw [List.append_nil] at hh
      subst hh
      simp only [spec_ShareRises.l0]
      have hsb := hpre.sum
      have hav : AV l (-h.sum) := ⟨hL, by omega, by omega⟩
      obtain ⟨s1, s2, s3⟩ := shR_ok hav
      rw [if_neg (by omega), l14Sum_eq k 100000 h (by omega) (fun x hx => by have := hpre x hx; omega) (by omega) (by omega)]
      simp only [Option.bind_some]
      rw [sw64 (x := -h.sum) (by omega) (by omega), spec_ShareOf_eq _ _ _ (by omega) (by omega)]
      simp only [Option.bind_some]
      have := spec_R_l1 h [] [] (shR l (-h.sum)).1 [] k (by omega) rfl (by omega) rfl (by simp; omega) hpre s3
      simp only [List.nil_append, List.length_nil] at this
      rw [if_pos (show RV [] by intro x hx; cases hx)]
      exact this
    · exact Or.inr hpre
  | cons y suf ih =>
    intro pre k hk hh
    by_cases hpre : RV pre
    · left
      simp only [List.length_cons] at hk
      obtain ⟨k, rfl⟩ : ∃ m, k = m + 1 := ⟨k - 1, by omega⟩
      have hy : rd h (pre.length : Int) = y := by rw [hh]; exact rd_mid pre suf y
      have hl : h.length = pre.length + suf.length + 1 := by rw [hh]; simp; omega
      simp only [spec_ShareRises.l0, s6In_eq, Option.bind_some]
      rw [if_pos (by omega), if_pos (by omega), hy]
      by_cases hyb : -100000 ≤ y ∧ y ≤ 100000
      · rw [if_pos (by simpa using hyb), next_mid pre y (by omega)]
        rcases ih (pre ++ [y]) k (by omega) (by rw [hh]; simp) with q | q
        · rw [q]
          have : RV (y :: suf) ↔ RV suf := ⟨fun z x hx => z x (List.mem_cons_of_mem _ hx), fun z x hx => by rcases List.mem_cons.1 hx with rfl | hx; exact hyb; exact z x hx⟩
          by_cases c : RV suf
          · rw [if_pos c, if_pos (this.2 c)]
          · rw [if_neg c, if_neg (fun z => c (this.1 z))]
        · refine absurd (fun x hx => ?_) q
          rcases List.mem_append.1 hx with hx | hx
          · exact hpre x hx
          · rw [List.mem_singleton.1 hx]; exact hyb
      · rw [if_neg (by simpa using hyb), if_neg (fun z => hyb (z y List.mem_cons_self))]
    · exact Or.inr hpre
theorem spec_ShareRises_eq (k : Nat) (l h : List Int) (hk : 2 * l.length + 300 < k) (hl : l.length ≤ 1048576) : spec_ShareRises.f k l h = some (risR l h) := by
  obtain ⟨k, rfl⟩ : ∃ m, k = m + 1 := ⟨k - 1, by omega⟩
  simp only [spec_ShareRises.f, l14Lengths_eq (k + 1) l (by omega) hl, Option.bind_some, spec_ShareRises.j0]
  unfold risR
  by_cases hL : LV l
  · rw [if_pos (by simpa using hL)]
    by_cases hlen : h.length = l.length
    · have h20 := hL.2.2.1
      rw [if_neg (by simp [hlen])]
      rcases spec_R_l0 hL hlen h [] k (by omega) rfl with q | q
      · simp only [List.length_nil] at q
        rw [show ((0 : Nat) : Int) = 0 from rfl] at q
        rw [q]
        by_cases c : RV h
        · rw [if_pos c, if_pos ⟨hL, hlen, c⟩]
        · rw [if_neg c, if_neg (fun z => c z.2.2)]
      · exact absurd (fun x hx => by cases hx) q
    · rw [if_pos (by simp; omega), if_neg (fun z => hlen z.2.1)]
  · rw [if_neg (by simpa using hL), if_pos trivial, if_neg (fun z => hL z.1)]
theorem impl_R_l0 {l h : List Int} (hlen : h.length = l.length) (hh20 : h.length ≤ 1048576) (suf : List Int) : ∀ (pre : List Int) (k : Nat), suf.length + 200 + l.length < k → h = pre ++ suf → RV pre →
    impl_ShareRises.l0 k l h pre.sum h (h.length : Int) (pre.length : Int) = some (if LV l ∧ RV suf then (zipA h (shR l (-h.sum)).1, true) else ([], false)) := by
  induction suf with
  | nil =>
    intro pre k hk hh hpre
    obtain ⟨k, rfl⟩ : ∃ m, k = m + 1 := ⟨k - 1, by omega⟩
    rw [List.append_nil] at hh
    subst hh
    simp only [impl_ShareRises.l0, impl_ShareOf.f]
    have hsb := hpre.sum
    rw [if_neg (by omega), sw64 (x := -h.sum) (by omega) (by omega)]
    simp only [Option.bind_some]
    by_cases hL : LV l
    · have h20 := hL.2.2.1
      have hav : AV l (-h.sum) := ⟨hL, by omega, by omega⟩
      obtain ⟨s1, s2, s3⟩ := shR_ok hav
      have := impl_R_l1 h [] [] (shR l (-h.sum)).1 k (by omega) rfl (by omega) (by simp; omega) hpre s3
      simp only [List.nil_append, List.length_nil] at this
      rw [if_pos s1, if_pos ⟨hL, fun x hx => by cases hx⟩]
      exact this
    · have e : shR l (-h.sum) = ([], false) := by unfold shR; rw [if_neg (fun z => hL z.1)]
      rw [e, if_neg (by simp), if_neg (fun z => hL z.1)]
  | cons y suf ih =>
    intro pre k hk hh hpre
    simp only [List.length_cons] at hk
    obtain ⟨k, rfl⟩ : ∃ m, k = m + 1 := ⟨k - 1, by omega⟩
    have hy : rd h (pre.length : Int) = y := by rw [hh]; exact rd_mid pre suf y
    have hl : h.length = pre.length + suf.length + 1 := by rw [hh]; simp; omega
    simp only [impl_ShareRises.l0]
    rw [if_pos (by omega), if_pos (by omega), if_pos (by omega), hy, swithin_eq _ _ (by omega) (by omega)]
    simp only [Option.bind_some]
    by_cases hyb : -100000 ≤ y ∧ y ≤ 100000
    · have hsb := hpre.sum
      have hs2 : (pre ++ [y]).sum = pre.sum + y := by simp
      rw [if_pos (by simpa using hyb), next_mid pre y (by omega), sw64 (x := pre.sum + y) (by omega) (by omega), ← hs2]
      rw [ih (pre ++ [y]) k (by omega) (by rw [hh]; simp) (fun x hx => by
        rcases List.mem_append.1 hx with hx | hx
        · exact hpre x hx
        · rw [List.mem_singleton.1 hx]; exact hyb)]
      have : RV (y :: suf) ↔ RV suf := ⟨fun z x hx => z x (List.mem_cons_of_mem _ hx), fun z x hx => by rcases List.mem_cons.1 hx with rfl | hx; exact hyb; exact z x hx⟩
      by_cases c : LV l ∧ RV suf
      · rw [if_pos c, if_pos ⟨c.1, this.2 c.2⟩]
      · rw [if_neg c, if_neg (fun z => c ⟨z.1, this.1 z.2⟩)]
    · rw [if_neg (by simpa using hyb), if_neg (fun z => hyb (z.2 y List.mem_cons_self))]
theorem impl_ShareRises_eq (k : Nat) (l h : List Int) (hk : 2 * l.length + 300 < k) (hl : h.length ≤ 1048576) : impl_ShareRises.f k l h = some (risR l h) := by
  unfold impl_ShareRises.f risR
  by_cases hlen : h.length = l.length
  · rw [if_pos (by omega)]
    have := impl_R_l0 (l := l) (h := h) hlen hl h [] k (by omega) rfl (fun x hx => by cases hx)
    simp only [List.length_nil, List.sum_nil] at this
    rw [show ((0 : Nat) : Int) = 0 from rfl] at this
    rw [this]
    by_cases c : LV l ∧ RV h
    · rw [if_pos c, if_pos ⟨c.1, hlen, c.2⟩]
    · rw [if_neg c, if_neg (fun z => c ⟨z.1, z.2.2⟩)]
  · rw [if_neg (by omega), if_neg (fun z => hlen z.2.1)]
theorem risR_len (l h : List Int) : (risR l h).1.length ≤ l.length := by
  unfold risR
  split
  · rename_i c
    have hsb := RV.sum c.2.2
    have h20 := c.1.2.2.1
    have hav : AV l (-h.sum) := ⟨c.1, by have := c.2.1; omega, by have := c.2.1; omega⟩
    have s2 := (shR_ok hav).2.1
    show (zipA h (shR l (-h.sum)).1).length ≤ _
    rw [zipA_len _ _ (by rw [s2]; exact c.2.1)]
    have := c.2.1; omega
  · simp
end Go.Proofs.Ytfmjhckndlngaaa.Pure
