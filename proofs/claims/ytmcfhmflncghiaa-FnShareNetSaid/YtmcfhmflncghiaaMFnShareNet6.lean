/- Part 6 of what the proof of this law rests on: the functions of the translation as plain Lean functions with their walks, and the plain laws behind. -/
import Derived.Test.YtmcfhmflncghiaaMFnShareNet5
namespace Go.Proofs.Ytmcfhmflncghiaa.Pure
open Go.RowKit Go.Proofs.Ytmcfhmflncghiaa.Q Go.Proofs.YtmcfhmflncghiaaW.PrintWords Go.Proofs.YtmcfhmflncghiaaW.PrintLast
/-- Sums at the same place. -/
def zipA : List Int → List Int → List Int
  | x :: s, y :: t => (x + y) :: zipA s t
  | _, _ => []
theorem zipA_len : ∀ (s t : List Int), s.length = t.length → (zipA s t).length = s.length
  | [], [], _ => rfl
  | x :: s, y :: t, h => by simp only [zipA, List.length_cons]; rw [zipA_len s t (by simpa using h)]
/-- Rises in range. -/
def RV (h : List Int) : Prop := ∀ x ∈ h, -100000 ≤ x ∧ x ≤ 100000
instance (h : List Int) : Decidable (RV h) := by unfold RV; infer_instance
def risR (l h : List Int) : List Int × Bool := if LV l ∧ h.length = l.length ∧ RV h then (zipA h (shR l (-h.sum)).1, true) else ([], false)
theorem spec_R_l1 (suf : List Int) : ∀ (pre pres sufs o : List Int) (k : Nat), suf.length < k → pre.length = pres.length → suf.length = sufs.length → o.length = pre.length → pre.length + suf.length ≤ 1000 → (∀ x ∈ suf, -100000 ≤ x ∧ x ≤ 100000) → (∀ x ∈ sufs, -10000001 ≤ x ∧ x ≤ 10000001) →
    spec_ShareRises.l1 k (pre ++ suf) o (pres ++ sufs) (pre.length : Int) = some (o ++ zipA suf sufs, true) := by
  induction suf with
  | nil =>
    intro pre pres sufs o k hk _ h1 _ _ _ _
    obtain ⟨k, rfl⟩ : ∃ m, k = m + 1 := ⟨k - 1, by omega⟩
    obtain rfl : sufs = [] := by cases sufs with | nil => rfl | cons _ _ => simp at h1
    simp [spec_ShareRises.l1, zipA]
  | cons y suf ih =>
    intro pre pres sufs o k hk hp h1 ho hl hb hbs
    cases sufs with
    | nil => simp at h1
    | cons z sufs =>
      simp only [List.length_cons] at hk hl h1
      obtain ⟨k, rfl⟩ : ∃ m, k = m + 1 := ⟨k - 1, by omega⟩
      simp only [spec_ShareRises.l1]
      have by_ := hb y List.mem_cons_self
      have bz := hbs z List.mem_cons_self
      have rz : rd (pres ++ z :: sufs) (pre.length : Int) = z := by rw [hp]; exact rd_mid pres sufs z
      rw [if_pos (len_mid _ _ _), if_pos (by omega), if_pos (by rw [hp]; exact len_mid _ _ _), if_pos (by omega), rd_mid, rz, next_mid pre y (by omega), app_mid pre suf y, app_mid pres sufs z, sw64 (by omega) (by omega)]
      rw [ih (pre ++ [y]) (pres ++ [z]) sufs (o ++ [y + z]) k (by omega) (by simp [hp]) (by omega) (by simp [ho]) (by simp; omega) (fun x hx => hb x (List.mem_cons_of_mem _ hx)) (fun x hx => hbs x (List.mem_cons_of_mem _ hx))]
      simp [zipA]
theorem impl_R_l1 (suf : List Int) : ∀ (pre pres sufs : List Int) (k : Nat), suf.length < k → pre.length = pres.length → suf.length = sufs.length → pre.length + suf.length ≤ 1000 → (∀ x ∈ suf, -100000 ≤ x ∧ x ≤ 100000) → (∀ x ∈ sufs, -10000001 ≤ x ∧ x ≤ 10000001) →
    impl_ShareRises.l1 k (pres ++ sufs) (pre ++ suf) ((pre ++ suf).length : Int) (pre.length : Int) = some (pres ++ zipA suf sufs, true) := by
  induction suf with
  | nil =>
    intro pre pres sufs k hk _ h1 _ _ _
    obtain ⟨k, rfl⟩ : ∃ m, k = m + 1 := ⟨k - 1, by omega⟩
    obtain rfl : sufs = [] := by cases sufs with | nil => rfl | cons _ _ => simp at h1
    simp [impl_ShareRises.l1, zipA]
  | cons y suf ih =>
    intro pre pres sufs k hk hp h1 hl hb hbs
    cases sufs with
    | nil => simp at h1
    | cons z sufs =>
      simp only [List.length_cons] at hk hl h1
      obtain ⟨k, rfl⟩ : ∃ m, k = m + 1 := ⟨k - 1, by omega⟩
      simp only [impl_ShareRises.l1]
      have by_ := hb y List.mem_cons_self
      have bz := hbs z List.mem_cons_self
      have rz : rd (pres ++ z :: sufs) (pre.length : Int) = z := by rw [hp]; exact rd_mid pres sufs z
      have sz : (pres ++ z :: sufs).set ((pre.length : Int)).toNat (z + y) = (pres ++ [y + z]) ++ sufs := by rw [hp, set_mid, Int.add_comm]; simp
      rw [if_pos (len_mid _ _ _), if_pos (by omega), if_pos (len_mid _ _ _), if_pos (by rw [hp]; exact len_mid _ _ _), rd_mid, rz, sw64 (x := z + y) (by omega) (by omega), sz, next_mid pre y (by omega), app_mid pre suf y]
      rw [ih (pre ++ [y]) (pres ++ [y + z]) sufs k (by omega) (by simp [hp]) (by omega) (by simp; omega) (fun x hx => hb x (List.mem_cons_of_mem _ hx)) (fun x hx => hbs x (List.mem_cons_of_mem _ hx))]
      simp [zipA]
/-- The shares of valid lengths and of an amount in range: in range, so many as lengths. -/
theorem shR_ok {l : List Int} {a : Int} (h : AV l a) : (shR l a).2 = true ∧ (shR l a).1.length = l.length ∧ ∀ x ∈ (shR l a).1, -10000001 ≤ x ∧ x ≤ 10000001 := by
  obtain ⟨p, t, hSP⟩ := share_SP h
  have e : shR l a = (pickN (a - (fl l a).sum).toNat (fl l a) (rs l a), true) := by unfold shR; rw [if_pos h]
  rw [e]
  refine ⟨rfl, hSP.len, fun x hx => ?_⟩
  obtain ⟨i, hi, rfl⟩ := mem_rd hx
  exact hSP.bd h i (by have := hSP.len; simp only [] at hi; omega)
theorem RV.sum {h : List Int} (hr : RV h) : -((h.length * 100000 : Nat) : Int) ≤ h.sum ∧ h.sum ≤ (h.length * 100000 : Nat) := sum_bd (B := 100000) h (fun x hx => by have := hr x hx; omega)
theorem spec_R_l0 {l h : List Int} (hL : LV l) (hlen : h.length = l.length) (suf : List Int) : ∀ (pre : List Int) (k : Nat), suf.length + 260 < k → h = pre ++ suf →
    spec_ShareRises.l0 k l h [] (pre.length : Int) = some (if RV suf then (zipA h (shR l (-h.sum)).1, true) else ([], false)) ∨ ¬ RV pre := by
  have h20 := hL.2.2.1
  induction suf with
  | nil =>
    intro pre k hk hh
    by_cases hpre : RV pre
    · left
      obtain ⟨k, rfl⟩ : ∃ m, k = m + 1 := ⟨k - 1, by omega⟩
      rw [List.append_nil] at hh
      subst hh
      simp only [spec_ShareRises.l0]
      have hsb := hpre.sum
      have hav : AV l (-h.sum) := ⟨hL, by omega, by omega⟩
      obtain ⟨s1, s2, s3⟩ := shR_ok hav
      rw [if_neg (by omega), l14Sum_eq k 100000 h (by omega) (fun x hx => by have := hpre x hx; omega) (by omega) (by omega)]
      simp only [Option.bind_some]
      rw [sw64 (x := -h.sum) (by omega) (by omega), spec_ShareOf_eq _ _ _ (by omega) (by omega)]
      simp only [Option.bind_some]
      have := spec_R_l1 h [] [] (shR l (-h.sum)).1 [] k (by omega) rfl (by omega) rfl (by simp; omega) hpre s3
      simp only [List.nil_append, List.length_nil] at this
      rw [if_pos (show RV [] by intro x hx; cases hx)]
      exact this
    · exact Or.inr hpre
  | cons y suf ih =>
    intro pre k hk hh
    by_cases hpre : RV pre
    · left
      simp only [List.length_cons] at hk
      obtain ⟨k, rfl⟩ : ∃ m, k = m + 1 := ⟨k - 1, by omega⟩
      have hy : rd h (pre.length : Int) = y := by rw [hh]; exact rd_mid pre suf y
      have hl : h.length = pre.length + suf.length + 1 := by rw [hh]; simp; omega
      simp only [spec_ShareRises.l0, s6In_eq, Option.bind_some]
      rw [if_pos (by omega), if_pos (by omega), hy]
      by_cases hyb : -100000 ≤ y ∧ y ≤ 100000
      · rw [if_pos (by simpa using hyb), next_mid pre y (by omega)]
        rcases ih (pre ++ [y]) k (by omega) (by rw [hh]; simp) with q | q
        · rw [q]
          have : RV (y :: suf) ↔ RV suf := ⟨fun z x hx => z x (List.mem_cons_of_mem _ hx), fun z x hx => by rcases List.mem_cons.1 hx with rfl | hx; exact hyb; exact z x hx⟩
          by_cases c : RV suf
          · rw [if_pos c, if_pos (this.2 c)]
          · rw [if_neg c, if_neg (fun z => c (this.1 z))]
        · refine absurd (fun x hx => ?_) q
          rcases List.mem_append.1 hx with hx | hx
          · exact hpre x hx
          · rw [List.mem_singleton.1 hx]; exact hyb
      · rw [if_neg (by simpa using hyb), if_neg (fun z => hyb (z y List.mem_cons_self))]
    · exact Or.inr hpre
theorem spec_ShareRises_eq (k : Nat) (l h : List Int) (hk : 2 * l.length + 300 < k) (hl : l.length ≤ 1048576) : spec_ShareRises.f k l h = some (risR l h) := by
  obtain ⟨k, rfl⟩ : ∃ m, k = m + 1 := ⟨k - 1, by omega⟩
  simp only [spec_ShareRises.f, l14Lengths_eq (k + 1) l (by omega) hl, Option.bind_some, spec_ShareRises.j0]
  unfold risR
  by_cases hL : LV l
  · rw [if_pos (by simpa using hL)]
    by_cases hlen : h.length = l.length
    · have h20 := hL.2.2.1
      rw [if_neg (by simp [hlen])]
      rcases spec_R_l0 hL hlen h [] k (by omega) rfl with q | q
      · simp only [List.length_nil] at q
        rw [show ((0 : Nat) : Int) = 0 from rfl] at q
        rw [q]
        by_cases c : RV h
        · rw [if_pos c, if_pos ⟨hL, hlen, c⟩]
        · rw [if_neg c, if_neg (fun z => c z.2.2)]
      · exact absurd (fun x hx => by cases hx) q
    · rw [if_pos (by simp; omega), if_neg (fun z => hlen z.2.1)]
  · rw [if_neg (by simpa using hL), if_pos trivial, if_neg (fun z => hL z.1)]
theorem impl_R_l0 {l h : List Int} (hlen : h.length = l.length) (hh20 : h.length ≤ 1048576) (suf : List Int) : ∀ (pre : List Int) (k : Nat), suf.length + 200 + l.length < k → h = pre ++ suf → RV pre →
    impl_ShareRises.l0 k l h pre.sum h (h.length : Int) (pre.length : Int) = some (if LV l ∧ RV suf then (zipA h (shR l (-h.sum)).1, true) else ([], false)) := by
  induction suf with
  | nil =>
    intro pre k hk hh hpre
    obtain ⟨k, rfl⟩ : ∃ m, k = m + 1 := ⟨k - 1, by omega⟩
    rw [List.append_nil] at hh
    subst hh
    simp only [impl_ShareRises.l0, impl_ShareOf.f]
    have hsb := hpre.sum
    rw [if_neg (by omega), sw64 (x := -h.sum) (by omega) (by omega)]
    simp only [Option.bind_some]
    by_cases hL : LV l
    · have h20 := hL.2.2.1
      have hav : AV l (-h.sum) := ⟨hL, by omega, by omega⟩
      obtain ⟨s1, s2, s3⟩ := shR_ok hav
      have := impl_R_l1 h [] [] (shR l (-h.sum)).1 k (by omega) rfl (by omega) (by simp; omega) hpre s3
      simp only [List.nil_append, List.length_nil] at this
      rw [if_pos s1, if_pos ⟨hL, fun x hx => by cases hx⟩]
      exact this
    · have e : shR l (-h.sum) = ([], false) := by unfold shR; rw [if_neg (fun z => hL z.1)]
      rw [e, if_neg (by simp), if_neg (fun z => hL z.1)]
  | cons y suf ih =>
    intro pre k hk hh hpre
    simp only [List.length_cons] at hk
    obtain ⟨k, rfl⟩ : ∃ m, k = m + 1 := ⟨k - 1, by omega⟩
    have hy : rd h (pre.length : Int) = y := by rw [hh]; exact rd_mid pre suf y
    have hl : h.length = pre.length + suf.length + 1 := by rw [hh]; simp; omega
    simp only [impl_ShareRises.l0]
    rw [if_pos (by omega), if_pos (by omega), if_pos (by omega), hy, swithin_eq _ _ (by omega) (by omega)]
    simp only [Option.bind_some]
    by_cases hyb : -100000 ≤ y ∧ y ≤ 100000
    · have hsb := hpre.sum
      have hs2 : (pre ++ [y]).sum = pre.sum + y := by simp
      rw [if_pos (by simpa using hyb), next_mid pre y (by omega), sw64 (x := pre.sum + y) (by omega) (by omega), ← hs2]
      rw [ih (pre ++ [y]) k (by omega) (by rw [hh]; simp) (fun x hx => by
        rcases List.mem_append.1 hx with hx | hx
        · exact hpre x hx
        · rw [List.mem_singleton.1 hx]; exact hyb)]
      have : RV (y :: suf) ↔ RV suf := ⟨fun z x hx => z x (List.mem_cons_of_mem _ hx), fun z x hx => by rcases List.mem_cons.1 hx with rfl | hx; exact hyb; exact z x hx⟩
      by_cases c : LV l ∧ RV suf
      · rw [if_pos c, if_pos ⟨c.1, this.2 c.2⟩]
      · rw [if_neg c, if_neg (fun z => c ⟨z.1, this.1 z.2⟩)]
    · rw [if_neg (by simpa using hyb), if_neg (fun z => hyb (z.2 y List.mem_cons_self))]
theorem impl_ShareRises_eq (k : Nat) (l h : List Int) (hk : 2 * l.length + 300 < k) (hl : h.length ≤ 1048576) : impl_ShareRises.f k l h = some (risR l h) := by
  unfold impl_ShareRises.f risR
  by_cases hlen : h.length = l.length
  · rw [if_pos (by omega)]
    have := impl_R_l0 (l := l) (h := h) hlen hl h [] k (by omega) rfl (fun x hx => by cases hx)
    simp only [List.length_nil, List.sum_nil] at this
    rw [show ((0 : Nat) : Int) = 0 from rfl] at this
    rw [this]
    by_cases c : LV l ∧ RV h
    · rw [if_pos c, if_pos ⟨c.1, hlen, c.2⟩]
    · rw [if_neg c, if_neg (fun z => c ⟨z.1, z.2.2⟩)]
  · rw [if_neg (by omega), if_neg (fun z => hlen z.2.1)]
theorem risR_len (l h : List Int) : (risR l h).1.length ≤ l.length := by
  unfold risR
  split
  · rename_i c
    have hsb := RV.sum c.2.2
    have h20 := c.1.2.2.1
    have hav : AV l (-h.sum) := ⟨c.1, by have := c.2.1; omega, by have := c.2.1; omega⟩
    have s2 := (shR_ok hav).2.1
    show (zipA h (shR l (-h.sum)).1).length ≤ _
    rw [zipA_len _ _ (by rw [s2]; exact c.2.1)]
    have := c.2.1; omega
  · simp
end Go.Proofs.Ytmcfhmflncghiaa.Pure
namespace Go.Proofs.Ytmcfhmflncghiaa.Pure
open Go.RowKit Go.Proofs.Ytmcfhmflncghiaa.Q Go.Proofs.YtmcfhmflncghiaaW.PrintWords Go.Proofs.YtmcfhmflncghiaaW.PrintLast Go.Proofs.YtmcfhmflncghiaaW.PrintMore

theorem rw64 {x : Int} (h0 : -9223372036854775808 ≤ x) (h1 : x ≤ 9223372036854775807) : wrap64 x = x := by
  unfold wrap64; omega

theorem xor_nonneg (x y : Int) (hx : 0 ≤ x) (hx' : x < 2 ^ 62) (hy : 0 ≤ y) (hy' : y < 2 ^ 62) : 0 ≤ Go.bits .xor .i64 x y := by
  obtain ⟨a, rfl⟩ : ∃ a : Nat, x = a := ⟨x.toNat, by omega⟩
  obtain ⟨b, rfl⟩ : ∃ b : Nat, y = b := ⟨y.toNat, by omega⟩
  have ha : a < 2 ^ 62 := by omega
  have hb : b < 2 ^ 62 := by omega
  have ha' : a % 2 ^ 64 = a := Nat.mod_eq_of_lt (by omega)
  have hb' : b % 2 ^ 64 = b := Nat.mod_eq_of_lt (by omega)
  have h := Nat.xor_lt_two_pow ha hb
  have e : Go.bits .xor .i64 (a : Int) (b : Int) = ((a ^^^ b : Nat) : Int) := by
    have e0 : Go.bits .xor .i64 (a : Int) (b : Int) = IntKind.i64.wrap ((BitVec.ofInt 64 (a : Int) ^^^ BitVec.ofInt 64 (b : Int)).toNat : Int) := rfl
    rw [e0, BitVec.ofInt_natCast, BitVec.ofInt_natCast, BitVec.toNat_xor, BitVec.toNat_ofNat, BitVec.toNat_ofNat, ha', hb', IntKind.wrap_i64]
    omega
  rw [e]
  exact Int.natCast_nonneg _

/-- All numbers of a list are bytes. -/
def Bts (b : List Int) : Prop := b.length ≤ 2000 ∧ ∀ x ∈ b, 0 ≤ x ∧ x ≤ 255
theorem Bts.at_ {b : List Int} (h : Bts b) (i : Int) : 0 ≤ rd b i ∧ rd b i ≤ 255 := by
  unfold rd
  by_cases hi : i.toNat < b.length
  · rw [List.getD_eq_getElem?_getD, List.getElem?_eq_getElem hi]; exact h.2 _ (List.getElem_mem hi)
  · rw [List.getD_eq_getElem?_getD, List.getElem?_eq_none (by omega)]; simp

theorem pick_ok (k : Nat) {b : List Int} {p n : Int} (hb : Bts b) (hp : 0 ≤ p ∧ p ≤ 1000000) (hn : 1 ≤ n) :
    ∃ v, spec_l6Rd_pick.f (k + 1) b p n = some (v, p + 1) ∧ 0 ≤ v ∧ v < n := by
  unfold spec_l6Rd_pick.f
  rw [if_neg (by omega), rw64 (x := p + 1) (by omega) (by omega)]
  simp only [spec_l6Rd_pick.j0]
  by_cases h0 : (b.length : Int) = 0
  · exact ⟨0, by rw [if_pos (by simpa using h0)], by omega, by omega⟩
  · rw [if_neg (by simpa using h0), show p + 1 - 1 = p by omega, rw64 (x := p) (by omega) (by omega)]
    have hlen : 0 < (b.length : Int) := by omega
    have hL := hb.1
    by_cases h1 : p < (b.length : Int)
    · rw [if_pos h1, if_pos hp.1, if_neg (by omega)]
      have hr := hb.at_ p
      rw [rw64 (by omega) (by omega), Int.tmod_eq_emod_of_nonneg hr.1]
      exact ⟨_, rfl, Int.emod_nonneg _ (by omega), Int.emod_lt_of_pos _ (by omega)⟩
    · rw [if_neg h1, if_neg h0]
      have q0 : 0 ≤ Int.tmod p (b.length : Int) := by rw [Int.tmod_eq_emod_of_nonneg hp.1]; exact Int.emod_nonneg _ (by omega)
      have q1 : Int.tmod p (b.length : Int) < (b.length : Int) := by rw [Int.tmod_eq_emod_of_nonneg hp.1]; exact Int.emod_lt_of_pos _ hlen
      rw [rw64 (x := p * 7) (by omega) (by omega), rw64 (x := p * 7 + 3) (by omega) (by omega)]
      have q2 : 0 ≤ Int.tmod (p * 7 + 3) (b.length : Int) := by rw [Int.tmod_eq_emod_of_nonneg (by omega)]; exact Int.emod_nonneg _ (by omega)
      have q3 : Int.tmod (p * 7 + 3) (b.length : Int) < (b.length : Int) := by rw [Int.tmod_eq_emod_of_nonneg (by omega)]; exact Int.emod_lt_of_pos _ hlen
      rw [if_pos q0, if_pos q1, if_pos q2, if_pos q3, if_neg (by omega)]
      have hr := hb.at_ (Int.tmod p (b.length : Int))
      have hs := hb.at_ (Int.tmod (p * 7 + 3) (b.length : Int))
      have hd : 0 ≤ Int.tdiv p (b.length : Int) ∧ Int.tdiv p (b.length : Int) ≤ p := by
        rw [Int.tdiv_eq_ediv_of_nonneg hp.1]
        exact ⟨Int.ediv_nonneg hp.1 (by omega), Int.ediv_le_self _ hp.1⟩
      generalize rd b (Int.tmod p (b.length : Int)) = u at *
      generalize rd b (Int.tmod (p * 7 + 3) (b.length : Int)) = v at *
      generalize Int.tdiv p (b.length : Int) = d at *
      rw [rw64 (x := u) (by omega) (by omega), rw64 (x := v) (by omega) (by omega), rw64 (x := u * 131) (by omega) (by omega), rw64 (x := v * 1117) (by omega) (by omega),
        rw64 (x := u * 131 + v * 1117) (by omega) (by omega), rw64 (x := p * 29) (by omega) (by omega), rw64 (x := u * 131 + v * 1117 + p * 29) (by omega) (by omega),
        rw64 (x := d) (by omega) (by omega), rw64 (x := d * 53) (by omega) (by omega), rw64 (x := u * 131 + v * 1117 + p * 29 + d * 53) (by omega) (by omega)]
      have hx : 0 ≤ u * 131 + v * 1117 + p * 29 + d * 53 := by omega
      have hx' : u * 131 + v * 1117 + p * 29 + d * 53 < 2 ^ 60 := by omega
      generalize u * 131 + v * 1117 + p * 29 + d * 53 = x at *
      have hy : 0 ≤ Int.tdiv x 64 ∧ Int.tdiv x 64 < 2 ^ 60 := by rw [Int.tdiv_eq_ediv_of_nonneg hx]; omega
      rw [rw64 (x := Int.tdiv x 64) (by omega) (by omega)]
      have hz := xor_nonneg x (Int.tdiv x 64) hx (by omega) hy.1 (by omega)
      rw [Int.tmod_eq_emod_of_nonneg hz]
      exact ⟨_, rfl, Int.emod_nonneg _ (by omega), Int.emod_lt_of_pos _ (by omega)⟩

theorem open_ok {l : List Int} (hl : ∀ x ∈ l, (Lit.int .u8 x).wf = true) : ∃ b, spec_l6Open.f l = some (b, 0) ∧ Bts b := by
  have hb : ∀ x ∈ l, 0 ≤ x ∧ x ≤ 255 := fun x hx => by
    have := hl x hx
    simp [Lit.wf, IntKind.min, IntKind.max, IntKind.signed, IntKind.bits] at this
    omega
  unfold spec_l6Open.f
  by_cases h : (l.length : Int) > 2000
  · rw [if_pos h, if_pos (by omega)]
    exact ⟨_, rfl, by rw [List.length_take]; omega, fun x hx => hb x (List.mem_of_mem_take hx)⟩
  · rw [if_neg h]
    exact ⟨_, rfl, by omega, hb⟩
end Go.Proofs.Ytmcfhmflncghiaa.Pure
namespace Go.Proofs.Ytmcfhmflncghiaa.Pure
open Go.RowKit Go.Proofs.Ytmcfhmflncghiaa.Q Go.Proofs.YtmcfhmflncghiaaW.PrintWords Go.Proofs.YtmcfhmflncghiaaW.PrintLast Go.Proofs.YtmcfhmflncghiaaW.PrintMore

theorem l91Lengths_l0 {b : List Int} (hb : Bts b) (m : Nat) : ∀ (x3 : List Int) (x4 x5 p : Int) (k : Nat), x4 - x5 = m → x3.length = x5 → 1 ≤ x4 → x4 ≤ 6 → 0 ≤ p → p + 10 * m ≤ 1000 → m + 3 < k →
    ∃ l q, spec_l91Lengths.l0 k x3 x4 x5 b p = some (l, q) ∧ p ≤ q ∧ q ≤ p + m + 4 ∧ l.length ≤ 6 := by
  induction m with
  | zero =>
    intro x3 x4 x5 p k h hl h1 h6 hp hp' hk
    obtain ⟨k, rfl⟩ : ∃ j, k = j + 1 := ⟨k - 1, by omega⟩
    obtain ⟨k, rfl⟩ : ∃ j, k = j + 1 := ⟨k - 1, by omega⟩
    simp only [spec_l91Lengths.l0]
    rw [if_neg (by omega)]
    obtain ⟨v1, e1, v10, v11⟩ := pick_ok k hb (p := p) (n := x4) (by omega) (by omega)
    obtain ⟨v2, e2, v20, v21⟩ := pick_ok k hb (p := p + 1) (n := 5) (by omega) (by omega)
    obtain ⟨v3, e3, v30, v31⟩ := pick_ok k hb (p := p + 1 + 1) (n := 40) (by omega) (by omega)
    obtain ⟨v4, e4, v40, v41⟩ := pick_ok k hb (p := p + 1 + 1 + 1) (n := 2) (by omega) (by omega)
    simp only [e1, e2, e3, e4, Option.bind_some]
    rw [if_pos v10, if_pos (by omega)]
    by_cases c0 : v3 = 0
    · rw [if_pos c0, if_pos v40, if_pos (by simp; omega), if_pos (by omega)]
      exact ⟨_, _, rfl, by omega, by omega, by simp; omega⟩
    · rw [if_neg c0]
      by_cases c1 : v3 = 1
      · rw [if_pos c1, if_pos (by omega), if_pos (by omega)]
        exact ⟨_, _, rfl, by omega, by omega, by simp; omega⟩
      · rw [if_neg c1]
        by_cases c2 : v3 = 2
        · rw [if_pos c2]; exact ⟨_, _, rfl, by omega, by omega, by simp⟩
        · rw [if_neg c2]; exact ⟨_, _, rfl, by omega, by omega, by simp; omega⟩
  | succ m ih =>
    intro x3 x4 x5 p k h hl h1 h6 hp hp' hk
    obtain ⟨k, rfl⟩ : ∃ j, k = j + 1 := ⟨k - 1, by omega⟩
    obtain ⟨k', rfl⟩ : ∃ j, k = j + 1 := ⟨k - 1, by omega⟩
    rw [spec_l91Lengths.l0]
    rw [if_pos (by omega)]
    obtain ⟨v1, e1, v10, v11⟩ := pick_ok k' hb (p := p) (n := 9) (by omega) (by omega)
    simp only [e1, Option.bind_some]
    rw [if_pos (by omega), sw64 (x := x5 + 1) (by omega) (by omega)]
    obtain ⟨l, q, e, q0, q1, hl6⟩ := ih (x3 ++ [v1]) x4 (x5 + 1) (p + 1) (k' + 1) (by omega) (by simp; omega) h1 h6 (by omega) (by omega) (by omega)
    exact ⟨l, q, e, by omega, by omega, hl6⟩
theorem l91Lengths_ok (k : Nat) {b : List Int} (hb : Bts b) {p : Int} (hp : 0 ≤ p ∧ p ≤ 100) (hk : 20 < k) : ∃ l q, spec_l91Lengths.f k b p = some (l, q) ∧ p ≤ q ∧ q ≤ p + 20 ∧ l.length ≤ 6 := by
  obtain ⟨k, rfl⟩ : ∃ j, k = j + 1 := ⟨k - 1, by omega⟩
  unfold spec_l91Lengths.f
  obtain ⟨v1, e1, v10, v11⟩ := pick_ok k hb (p := p) (n := 6) (by omega) (by omega)
  simp only [e1, Option.bind_some]
  rw [sw64 (x := 1 + v1) (by omega) (by omega)]
  obtain ⟨l, q, e, q0, q1, hl6⟩ := l91Lengths_l0 hb (1 + v1).toNat [] (1 + v1) 0 (p + 1) (k + 1) (by omega) rfl (by omega) (by omega) (by omega) (by omega) (by omega)
  exact ⟨l, q, e, by omega, by omega, hl6⟩
end Go.Proofs.Ytmcfhmflncghiaa.Pure
namespace Go.Proofs.Ytmcfhmflncghiaa.Pure
open Go.RowKit Go.Proofs.Ytmcfhmflncghiaa.Q Go.Proofs.YtmcfhmflncghiaaW.PrintWords Go.Proofs.YtmcfhmflncghiaaW.PrintLast
theorem sumOf_l0 {B : Nat} (suf : List Int) : ∀ (pre : List Int) (s : Int) (k : Nat), suf.length < k → pre.length + suf.length < 4611686018427387904 → (∀ x ∈ suf, -(B : Int) ≤ x ∧ x ≤ B) →
    -4611686018427387904 ≤ s - ((suf.length * B : Nat) : Int) → s + ((suf.length * B : Nat) : Int) ≤ 4611686018427387904 → laws_sumOf.l0 k (pre ++ suf) s (pre.length : Int) = some (s + suf.sum) := by
  induction suf with
  | nil =>
    intro pre s k hk _ _ _ _
    obtain ⟨k, rfl⟩ : ∃ m, k = m + 1 := ⟨k - 1, by omega⟩
    simp [laws_sumOf.l0]
  | cons y suf ih =>
    intro pre s k hk hl hB h0 h1
    simp only [List.length_cons] at hk hl
    obtain ⟨k, rfl⟩ : ∃ m, k = m + 1 := ⟨k - 1, by omega⟩
    have hy := hB y List.mem_cons_self
    rw [List.length_cons, Nat.succ_mul] at h0 h1
    simp only [laws_sumOf.l0]
    rw [if_pos (len_mid _ _ _), if_pos (by omega), rd_mid, next_mid pre y (by omega), app_mid pre suf y, sw64 (x := s + y) (by omega) (by omega)]
    rw [ih (pre ++ [y]) (s + y) k (by omega) (by simp; omega) (fun x hx => hB x (List.mem_cons_of_mem _ hx)) (by omega) (by omega), List.sum_cons]
    congr 1; omega
theorem sumOf_eq (k : Nat) (B : Nat) (l : List Int) (hk : l.length < k) (hB : ∀ x ∈ l, -(B : Int) ≤ x ∧ x ≤ B) (hl : l.length ≤ 1000000) (hs : l.length * B ≤ 4611686018427387904) : laws_sumOf.f k l = some l.sum := by
  unfold laws_sumOf.f
  have := sumOf_l0 (B := B) l [] 0 k hk (by simp; omega) hB (by omega) (by omega)
  simpa using this
theorem sameInts_l0 (suf : List Int) : ∀ (pre : List Int) (k : Nat), suf.length < k → pre.length + suf.length < 4611686018427387904 → laws_sameInts.l0 k (pre ++ suf) (pre ++ suf) (pre.length : Int) = some true := by
  induction suf with
  | nil =>
    intro pre k hk _
    obtain ⟨k, rfl⟩ : ∃ m, k = m + 1 := ⟨k - 1, by omega⟩
    simp [laws_sameInts.l0]
  | cons y suf ih =>
    intro pre k hk hl
    simp only [List.length_cons] at hk hl
    obtain ⟨k, rfl⟩ : ∃ m, k = m + 1 := ⟨k - 1, by omega⟩
    simp only [laws_sameInts.l0]
    rw [if_pos (len_mid _ _ _), if_pos (by omega), if_pos (len_mid _ _ _), if_pos trivial, next_mid pre y (by omega), app_mid pre suf y]
    exact ih (pre ++ [y]) k (by omega) (by simp; omega)
theorem sameInts_self (k : Nat) (l : List Int) (hk : l.length < k) (hl : l.length ≤ 1000000000) : laws_sameInts.f k l l = some true := by
  unfold laws_sameInts.f
  rw [if_pos rfl]
  exact sameInts_l0 l [] k hk (by simp; omega)
end Go.Proofs.Ytmcfhmflncghiaa.Pure
namespace Go.Proofs.Ytmcfhmflncghiaa.Pure
open Go.RowKit Go.Proofs.Ytmcfhmflncghiaa.Q Go.Proofs.YtmcfhmflncghiaaW.PrintWords Go.Proofs.YtmcfhmflncghiaaW.PrintLast Go.Proofs.YtmcfhmflncghiaaW.PrintMore
theorem DrawRises_l0 {b : List Int} (hb : Bts b) {l : List Int} (hl : l.length ≤ 6) (c : Nat) : ∀ (x : List Int) (i p : Int) (k : Nat), (l.length : Int) - i = c → (x.length : Int) = i → 0 ≤ i → 0 ≤ p → p + c ≤ 900 → c + 5 < k → RV x →
    ∃ h, spec_DrawShareRises.l0 k l x i b p = some (l, h) ∧ h.length ≤ 6 := by
  induction c with
  | zero =>
    intro x i p k hc hx hi hp hpc hk hR
    obtain ⟨k, rfl⟩ : ∃ j, k = j + 2 := ⟨k - 2, by omega⟩
    rw [spec_DrawShareRises.l0, if_neg (by omega)]
    by_cases c0 : (x.length : Int) > 0
    · rw [if_pos c0]
      obtain ⟨v1, e1, v10, v11⟩ := pick_ok k hb (p := p) (n := 24) (by omega) (by omega)
      simp only [e1, Option.bind_some]
      by_cases c1 : v1 = 0
      · rw [if_pos c1, if_pos (by omega)]; exact ⟨_, rfl, by rw [List.length_set]; omega⟩
      · rw [if_neg c1]
        by_cases c2 : v1 = 1
        · rw [if_pos c2, if_pos (by omega)]; exact ⟨_, rfl, by rw [List.length_drop]; omega⟩
        · rw [if_neg c2]; exact ⟨_, rfl, by omega⟩
    · rw [if_neg c0]; exact ⟨_, rfl, by omega⟩
  | succ c ih =>
    intro x i p k hc hx hi hp hpc hk hR
    obtain ⟨k, rfl⟩ : ∃ j, k = j + 2 := ⟨k - 2, by omega⟩
    rw [spec_DrawShareRises.l0, if_pos (by omega)]
    obtain ⟨v1, e1, v10, v11⟩ := pick_ok k hb (p := p) (n := 61) (by omega) (by omega)
    simp only [e1, Option.bind_some]
    rw [if_pos (by omega), sw64 (x := v1 - 30) (by omega) (by omega), sw64 (x := i + 1) (by omega) (by omega)]
    refine ih (x ++ [v1 - 30]) (i + 1) (p + 1) (k + 1) (by omega) (by simp; omega) (by omega) (by omega) (by omega) (by omega) (fun y hy => ?_)
    rcases List.mem_append.1 hy with q | q
    · exact hR y q
    · rw [List.mem_singleton.1 q]; omega
theorem DrawRises_ok (k : Nat) (hk : 300 < k) {bs : List Int} (hbs : ∀ x ∈ bs, (Lit.int .u8 x).wf = true) : ∃ l h, spec_DrawShareRises.f k bs = some (l, h) ∧ l.length ≤ 6 ∧ h.length ≤ 6 := by
  unfold spec_DrawShareRises.f
  obtain ⟨b, h0, hb⟩ := open_ok hbs
  rw [h0]; simp only [Option.bind_some]
  obtain ⟨l, q1, e1, q10, q11, hl⟩ := l91Lengths_ok k hb (p := 0) (by omega) (by omega)
  rw [e1]; simp only [Option.bind_some]
  obtain ⟨h, e, hh⟩ := DrawRises_l0 hb hl l.length [] 0 q1 k (by omega) rfl (by omega) (by omega) (by omega) (by omega) (by intro x hx; simp at hx)
  exact ⟨l, h, e, hl, hh⟩
theorem zipA_sum : ∀ (s t : List Int), s.length = t.length → (zipA s t).sum = s.sum + t.sum
  | [], [], _ => rfl
  | x :: s, y :: t, h => by
    have := zipA_sum s t (by simpa using h)
    simp only [zipA, List.sum_cons, this]; omega
theorem ris_AV {l h : List Int} (hL : LV l) (hl : h.length = l.length) (hR : RV h) : AV l (-h.sum) := by
  have := RV.sum hR
  have h20 := hL.2.2.1
  have : h.length * 100000 ≤ 2000000 := by omega
  exact ⟨hL, by omega, by omega⟩
/-- Shared rises: so many, and their sum is 0. -/
theorem ris_sum {l h : List Int} (c : LV l ∧ h.length = l.length ∧ RV h) : (risR l h).1.length = h.length ∧ (risR l h).1.sum = 0 ∧ ∀ x ∈ (risR l h).1, -10200000 ≤ x ∧ x ≤ 10200000 := by
  have hA := ris_AV c.1 c.2.1 c.2.2
  have e : risR l h = (zipA h (shR l (-h.sum)).1, true) := by unfold risR; rw [if_pos c]
  obtain ⟨s1, s2, s3⟩ := shR_ok hA
  obtain ⟨p, t, hSP⟩ := share_SP hA
  have e2 : (shR l (-h.sum)).1 = pickN (-h.sum - (fl l (-h.sum)).sum).toNat (fl l (-h.sum)) (rs l (-h.sum)) := by unfold shR; rw [if_pos hA]
  have ht := hSP.total
  rw [← e2] at ht
  have hlen : h.length = (shR l (-h.sum)).1.length := by omega
  rw [e]
  refine ⟨zipA_len _ _ hlen, by show (zipA h _).sum = 0; rw [zipA_sum _ _ hlen, ht]; omega, ?_⟩
  have key : ∀ (s t : List Int), s.length = t.length → (∀ x ∈ s, -100000 ≤ x ∧ x ≤ 100000) → (∀ x ∈ t, -10000001 ≤ x ∧ x ≤ 10000001) → ∀ x ∈ zipA s t, -10200000 ≤ x ∧ x ≤ 10200000 := by
    intro s
    induction s with
    | nil => intro t _ _ _ x hx; simp [zipA] at hx
    | cons a s ih =>
      intro t hl h1 h2 x hx
      cases t with
      | nil => simp at hl
      | cons b t =>
        rcases List.mem_cons.1 hx with q | q
        · have := h1 a (by simp); have := h2 b (by simp); omega
        · exact ih t (by simpa using hl) (fun y hy => h1 y (by simp [hy])) (fun y hy => h2 y (by simp [hy])) x q
  exact key h _ hlen c.2.2 s3
theorem map_zero {l : List Int} {f : Int → Int} (h : ∀ x ∈ l, f x = 0) : (l.map f).sum = 0 := by
  induction l with
  | nil => rfl
  | cons x l ih => rw [List.map_cons, List.sum_cons, h x (by simp), ih (fun y hy => h y (by simp [hy]))]; rfl
theorem zipA_zero : ∀ (s t : List Int), s.length = t.length → (∀ x ∈ t, x = 0) → zipA s t = s
  | [], [], _, _ => rfl
  | x :: s, y :: t, hl, h => by
    have := h y (by simp)
    rw [zipA, zipA_zero s t (by simpa using hl) (fun z hz => h z (by simp [hz])), this, Int.add_zero]
/-- Rises with the sum 0 are left. -/
theorem ris_zero {l h : List Int} (c : LV l ∧ h.length = l.length ∧ RV h) (h0 : h.sum = 0) : (risR l h).1 = h := by
  have hA := ris_AV c.1 c.2.1 c.2.2
  have e : risR l h = (zipA h (shR l (-h.sum)).1, true) := by unfold risR; rw [if_pos c]
  rw [e, h0]
  have hfl : ∀ x ∈ fl l (-0), x = 0 := by
    intro x hx
    obtain ⟨y, _, rfl⟩ := List.mem_map.1 hx
    simp
  have hs : (fl l (-0)).sum = 0 := map_zero (l := l) (f := fun x => -0 * x / l.sum) (fun x _ => by simp)
  rw [h0] at hA
  have e2 : (shR l (-0)).1 = fl l (-0) := by
    unfold shR
    rw [if_pos hA, hs]
    rfl
  show zipA h (shR l (-0)).1 = h
  rw [e2]
  exact zipA_zero _ _ (by simp [fl]; exact c.2.1) hfl
end Go.Proofs.Ytmcfhmflncghiaa.Pure
namespace Go.Proofs.Ytmcfhmflncghiaa.Pure
open Go.RowKit Go.Proofs.Ytmcfhmflncghiaa.Q Go.Proofs.YtmcfhmflncghiaaW.PrintWords Go.Proofs.YtmcfhmflncghiaaW.PrintLast Go.Proofs.YtmcfhmflncghiaaW.PrintMore
section
variable (pre suf : List Int) (y : Int)
theorem len_midI : (pre.length : Int) < ((pre ++ y :: suf).length : Int) := by simp; omega
theorem rd_midI : rd (pre ++ y :: suf) (pre.length : Int) = y := by simp [rd]
theorem app_midI : pre ++ y :: suf = (pre ++ [y]) ++ suf := by simp
theorem next_midI (h : pre.length < 4611686018427387904) : wrap64 ((pre.length : Int) + 1) = ((pre ++ [y]).length : Int) := by
  unfold wrap64; simp; omega
end
def hIn (h : List Int) : Prop := ∀ x ∈ h, -1000000 ≤ x ∧ x ≤ 1000000
instance (h : List Int) : Decidable (hIn h) := by unfold hIn; infer_instance
theorem nheights_l0 (suf : List Int) : ∀ (pre : List Int) (k : Nat), suf.length < k → pre.length + suf.length < 4611686018427387904 →
    impl_heightsValid.l0 k (pre ++ suf) ((pre ++ suf).length : Int) (pre.length : Int) = some (decide (hIn suf)) := by
  induction suf with
  | nil =>
    intro pre k hk _
    obtain ⟨k, rfl⟩ : ∃ m, k = m + 1 := ⟨k - 1, by omega⟩
    simp [impl_heightsValid.l0, hIn]
  | cons y suf ih =>
    intro pre k hk hl
    simp only [List.length_cons] at hk hl
    obtain ⟨k, rfl⟩ : ∃ m, k = m + 1 := ⟨k - 1, by omega⟩
    simp only [impl_heightsValid.l0]
    rw [if_pos (len_midI _ _ _), if_pos (by omega), if_pos (len_midI _ _ _), rd_midI, nwithin_eq _ _ (by omega) (by omega)]
    simp only [Option.bind_some]
    by_cases hy : -1000000 ≤ y ∧ y ≤ 1000000
    · rw [if_pos (by simpa using hy), next_midI pre y (by omega), app_midI pre suf y, ih (pre ++ [y]) k (by omega) (by simp; omega)]
      congr 1; rw [decide_eq_decide]; unfold hIn; simp [hy]
    · rw [if_neg (by simpa using hy)]; congr 1; symm; rw [decide_eq_false_iff_not]; exact fun q => hy (q y List.mem_cons_self)
/-- Heights fit runs. -/
def pot (h : Int → Int) (l : List Run) : Prop := ∀ r ∈ l, h r.f1 - h r.f0 = r.f2
theorem nfits_l0 {n : Int} {h : List Int} (hn : (h.length : Int) = n) (hb : hIn h) (suf : List Run) : ∀ (pre : List Run) (k : Nat), suf.length < k → pre.length + suf.length < 100 → VL n suf →
    (impl_NetFits.l0 k h (pre ++ suf) ((pre ++ suf).length : Int) (pre.length : Int) = some true ↔ pot (rd h) suf) ∧ ∃ b, impl_NetFits.l0 k h (pre ++ suf) ((pre ++ suf).length : Int) (pre.length : Int) = some b := by
  induction suf with
  | nil =>
    intro pre k hk _ _
    obtain ⟨k, rfl⟩ : ∃ m, k = m + 1 := ⟨k - 1, by omega⟩
    simp [impl_NetFits.l0, pot]
  | cons y suf ih =>
    intro pre k hk hl hv
    simp only [List.length_cons] at hk hl
    obtain ⟨k, rfl⟩ : ∃ m, k = m + 1 := ⟨k - 1, by omega⟩
    have hy := hv y List.mem_cons_self
    have bd : ∀ v : Int, 0 ≤ v → v < n → -1000000 ≤ rd h v ∧ rd h v ≤ 1000000 := fun v v0 v1 => by
      obtain ⟨i, rfl⟩ : ∃ i : Nat, v = i := ⟨v.toNat, by omega⟩
      rw [rd_eq h i (by omega)]
      exact hb _ (List.getElem_mem _)
    have b1 := bd y.f1 hy.2.2.1 hy.2.2.2
    have b0 := bd y.f0 hy.1 hy.2.1
    have hi := ih (pre ++ [y]) k (by omega) (by simp; omega) (fun r hr => hv r (List.mem_cons_of_mem _ hr))
    rw [impl_NetFits.l0, if_pos (len_midR _ _ _), if_pos (by omega), if_pos (len_midR _ _ _), rd_midR, if_pos hy.2.2.1, if_pos (by omega), if_pos hy.1, if_pos (by omega), nw64 (x := rd h y.f1 - rd h y.f0) (by omega) (by omega), next_midR pre y (by omega), app_midR pre suf y]
    by_cases c : rd h y.f1 - rd h y.f0 = y.f2
    · rw [if_pos c]
      refine ⟨hi.1.trans ⟨fun q r hr => ?_, fun q r hr => q r (List.mem_cons_of_mem _ hr)⟩, hi.2⟩
      rcases List.mem_cons.1 hr with e | e
      · rw [e]; exact c
      · exact q r e
    · rw [if_neg c]
      exact ⟨⟨fun q => by simp at q, fun q => absurd (q y List.mem_cons_self) c⟩, _, rfl⟩
theorem NetFits_true (k : Nat) (n : Int) (l : List Run) (h : List Int) (hk : 50 < k) (hv : nvB n l = true) (hn : (h.length : Int) = n) (hb : hIn h) : (impl_NetFits.f k n l h = some true ↔ pot (rd h) l) ∧ ∃ b, impl_NetFits.f k n l h = some b := by
  have hnn := nvB_n hv
  obtain ⟨k, rfl⟩ : ∃ m, k = m + 1 := ⟨k - 1, by omega⟩
  have e1 : impl_heightsValid.f (k + 1) n h = some true := by
    unfold impl_heightsValid.f
    rw [if_pos hn]
    have := nheights_l0 h [] (k + 1) (by omega) (by simp; omega)
    simp only [List.nil_append, List.length_nil] at this
    rw [show ((0 : Nat) : Int) = 0 from rfl] at this
    rw [this, decide_eq_true hb]
  have e2 := nfits_l0 hn hb l [] k (by omega) (by simp; omega) (nvB_VL hv)
  simp only [List.nil_append, List.length_nil] at e2
  rw [show ((0 : Nat) : Int) = 0 from rfl] at e2
  unfold impl_NetFits.f
  rw [impl_NetValid_eq (k + 1) n l (by omega), hv]
  simp only [Option.bind_some]
  rw [if_pos trivial, e1]
  simp only [Option.bind_some, Bool.not_true]
  rw [impl_NetFits.j0, if_neg (by simp)]
  exact e2
/-- A net is whole. -/
def wholeB (n : Int) (l : List Run) : Bool := nvB n l && (leastR n l).all (fun x => decide (x = 0))
theorem nwhole_l0 (suf : List Int) : ∀ (pre : List Int) (k : Nat), suf.length < k → pre.length + suf.length < 100 → impl_NetWhole.l0 k (pre ++ suf) ((pre ++ suf).length : Int) (pre.length : Int) = some (suf.all (fun x => decide (x = 0))) := by
  induction suf with
  | nil =>
    intro pre k hk _
    obtain ⟨k, rfl⟩ : ∃ m, k = m + 1 := ⟨k - 1, by omega⟩
    simp [impl_NetWhole.l0]
  | cons y suf ih =>
    intro pre k hk hl
    simp only [List.length_cons] at hk hl
    obtain ⟨k, rfl⟩ : ∃ m, k = m + 1 := ⟨k - 1, by omega⟩
    rw [impl_NetWhole.l0, if_pos (len_midI _ _ _), if_pos (by omega), if_pos (len_midI _ _ _), rd_midI]
    by_cases c : y = 0
    · rw [if_pos c, next_midI pre y (by omega), app_midI pre suf y, ih (pre ++ [y]) k (by omega) (by simp; omega)]
      simp [c]
    · rw [if_neg c]; simp [c]
theorem NetWhole_eq (k : Nat) (n : Int) (l : List Run) (hk : 50 < k) : impl_NetWhole.f k n l = some (wholeB n l) := by
  unfold impl_NetWhole.f wholeB
  rw [impl_NetValid_eq k n l (by omega)]
  simp only [Option.bind_some]
  by_cases hv : nvB n l = true
  · have hnn := nvB_n hv
    have hL := (leastR_lst (by omega) l (nvB_VL hv)).len
    have e : impl_leastLinked.f n l = some (leastR n l) := by unfold impl_leastLinked.f; rw [if_pos hv]
    have e2 := nwhole_l0 (leastR n l) [] k (by omega) (by simp; omega)
    simp only [List.nil_append, List.length_nil] at e2
    rw [show ((0 : Nat) : Int) = 0 from rfl] at e2
    rw [if_pos hv, e]
    simp only [Option.bind_some]
    rw [e2, hv, Bool.true_and]
  · rw [if_neg hv, Bool.eq_false_iff.2 hv, Bool.false_and]
theorem wholeB_iff {n : Int} {l : List Run} : wholeB n l = true ↔ nvB n l = true ∧ ∀ v, 0 ≤ v → v < n → Lk l 0 v := by
  unfold wholeB
  rw [Bool.and_eq_true]
  refine and_congr_right fun hv => ?_
  have hnn := nvB_n hv
  have L := leastR_lst (by omega) l (nvB_VL hv)
  have hl := L.len
  have e0 : rd (leastR n l) 0 = 0 := by have := L.le 0 (by omega) (by omega); have := L.nn 0 (by omega) (by omega); omega
  rw [List.all_eq_true]
  constructor
  · intro h v v0 v1
    rw [lk_iff L ⟨by omega, by omega⟩ ⟨v0, v1⟩, e0]
    obtain ⟨i, rfl⟩ : ∃ i : Nat, v = i := ⟨v.toNat, by omega⟩
    rw [rd_eq _ i (by omega)]
    exact (of_decide_eq_true (h _ (List.getElem_mem _))).symm
  · intro h x hx
    obtain ⟨i, hi, rfl⟩ := List.getElem_of_mem hx
    have := (lk_iff L ⟨by omega, by omega⟩ ⟨show (0 : Int) ≤ (i : Int) by omega, by omega⟩).1 (h i (by omega) (by omega))
    rw [e0, rd_eq _ i hi] at this
    exact decide_eq_true this.symm
end Go.Proofs.Ytmcfhmflncghiaa.Pure
namespace Go.Proofs.Ytmcfhmflncghiaa.Pure
open Go.RowKit Go.Proofs.Ytmcfhmflncghiaa.Q Go.Proofs.YtmcfhmflncghiaaW.PrintWords Go.Proofs.YtmcfhmflncghiaaW.PrintLast Go.Proofs.YtmcfhmflncghiaaW.PrintMore
abbrev rdT (l : List Run) (i : Int) : Run := rd_T32 l i
/-! trees -/
def pk (l : List Run) (t : List Int) : List Run := t.map (rdT l)
def ftStep (n : Int) (l : List Run) (t : List Int) (k : Nat) : List Int :=
  if rd (leastR n (pk l t)) (rdT l k).f0 = rd (leastR n (pk l t)) (rdT l k).f1 then t else t ++ [(k : Int)]
def ftree (n : Int) (l : List Run) : Nat → List Int
  | 0 => []
  | k + 1 => ftStep n l (ftree n l k) k
theorem rdT_mem {l : List Run} {k : Nat} (h : k < l.length) : rdT l k ∈ l := by
  unfold rdT rd_T32; simp [h]
theorem rdT_get {l : List Run} {k : Nat} (h : k < l.length) : rdT l k = l[k] := by
  unfold rdT rd_T32; simp [h]
theorem ft_lt (n : Int) (l : List Run) : ∀ m, ∀ k ∈ ftree n l m, 0 ≤ k ∧ k < m
  | 0, k, h => by simp [ftree] at h
  | m + 1, k, h => by
    rw [ftree, ftStep] at h
    split at h
    · have := ft_lt n l m k h; omega
    · rcases List.mem_append.1 h with q | q
      · have := ft_lt n l m k q; omega
      · rw [List.mem_singleton.1 q]; omega
theorem ft_asc (n : Int) (l : List Run) : ∀ m, (ftree n l m).Pairwise (· < ·)
  | 0 => by simp [ftree]
  | m + 1 => by
    rw [ftree, ftStep]
    split
    · exact ft_asc n l m
    · rw [List.pairwise_append]
      exact ⟨ft_asc n l m, by simp, fun a ha b hb => by have := ft_lt n l m a ha; rw [List.mem_singleton.1 hb]; omega⟩
theorem pk_sub {l : List Run} {t : List Int} (h : ∀ k ∈ t, 0 ≤ k ∧ k < (l.length : Int)) : ∀ r ∈ pk l t, r ∈ l := by
  intro r hr
  obtain ⟨k, hk, rfl⟩ := List.mem_map.1 hr
  obtain ⟨i, rfl⟩ : ∃ i : Nat, k = i := ⟨k.toNat, by have := h k hk; omega⟩
  exact rdT_mem (by have := h i hk; omega)
theorem ft_sub {n : Int} {l : List Run} {m : Nat} (h : m ≤ l.length) : ∀ r ∈ pk l (ftree n l m), r ∈ l :=
  pk_sub fun k hk => by have := ft_lt n l m k hk; omega
theorem ft_VL {n : Int} {l : List Run} {m : Nat} (hv : VL n l) (h : m ≤ l.length) : VL n (pk l (ftree n l m)) := hv.sub (ft_sub h)
theorem pk_snoc (l : List Run) (t : List Int) (k : Int) : pk l (t ++ [k]) = pk l t ++ [rdT l k] := by simp [pk]
theorem take_snoc {l : List Run} {m : Nat} (h : m < l.length) : l.take (m + 1) = l.take m ++ [rdT l m] := by
  rw [List.take_add_one, List.getElem?_eq_getElem h, rdT_get h]; rfl
/-- The tree so far links what the runs so far link. -/
theorem ft_lk {n : Int} (hn : 0 ≤ n) {l : List Run} (hv : VL n l) : ∀ m, m ≤ l.length → ∀ a b, Lk (l.take m) a b → Lk (pk l (ftree n l m)) a b
  | 0, _, a, b, h => by
    rw [List.take_zero] at h
    exact h.mono (by simp)
  | m + 1, hm, a, b, h => by
    have hr := hv _ (rdT_mem (l := l) (k := m) (by omega))
    have ih := ft_lk hn hv m (by omega)
    have hV := ft_VL (m := m) hv (by omega)
    have L := leastR_lst hn _ hV
    rw [take_snoc (by omega)] at h
    rw [ftree, ftStep]
    split
    · next c =>
      have hl : Lk (pk l (ftree n l m)) (rdT l m).f0 (rdT l m).f1 := (lk_iff L ⟨hr.1, hr.2.1⟩ ⟨hr.2.2.1, hr.2.2.2⟩).2 c
      induction h with
      | refl => exact .refl _
      | fwd hm2 _ ih2 =>
        rcases List.mem_append.1 hm2 with q | q
        · exact ih2.trans (ih _ _ (Lk.run q))
        · rw [List.mem_singleton.1 q] at ih2 ⊢; exact ih2.trans hl
      | bwd hm2 _ ih2 =>
        rcases List.mem_append.1 hm2 with q | q
        · exact ih2.trans (ih _ _ (Lk.run q)).symm
        · rw [List.mem_singleton.1 q] at ih2 ⊢; exact ih2.trans hl.symm
    · rw [pk_snoc]
      induction h with
      | refl => exact .refl _
      | fwd hm2 _ ih2 =>
        rcases List.mem_append.1 hm2 with q | q
        · exact ih2.trans ((ih _ _ (Lk.run q)).mono fun r hr => List.mem_append_left _ hr)
        · exact .fwd (List.mem_append_right _ q) ih2
      | bwd hm2 _ ih2 =>
        rcases List.mem_append.1 hm2 with q | q
        · exact ih2.trans ((ih _ _ (Lk.run q)).mono fun r hr => List.mem_append_left _ hr).symm
        · exact .bwd (List.mem_append_right _ q) ih2
/-- How many parts. -/
def parts (o : List Int) : Nat := ((List.range o.length).filter fun (i : Nat) => decide (rd o (i : Int) = (i : Int))).length
theorem filter_one (P Q : Nat → Bool) (z : Nat) : ∀ n, z < n → (∀ i, i < n → i ≠ z → P i = Q i) → P z = false → Q z = true → ((List.range n).filter P).length + 1 = ((List.range n).filter Q).length
  | 0, h, _, _, _ => by omega
  | n + 1, h, he, h0, h1 => by
    rw [List.range_succ, List.filter_append, List.filter_append, List.length_append, List.length_append]
    by_cases q : z = n
    · subst q
      have : (List.range z).filter P = (List.range z).filter Q := List.filter_congr fun i hi => by
        have := List.mem_range.1 hi
        exact he i (by omega) (by omega)
      rw [this]
      simp [h0, h1]
    · have ih := filter_one P Q z n (by omega) (fun i hi => he i (by omega)) h0 h1
      have e := he n (by omega) (by omega)
      simp only [List.filter_cons, List.filter_nil, e]
      omega
theorem parts_mg {n : Int} {l : List Run} {o : List Int} (L : Lst n l o) {a b : Int} (ha : 0 ≤ a ∧ a < n) (hb : 0 ≤ b ∧ b < n) (hab : rd o a ≠ rd o b) : parts (mg o (rd o a) (rd o b)) + 1 = parts o := by
  have hl := L.len
  have rep : ∀ v, 0 ≤ v → v < n → rd o (rd o v) = rd o v := fun v v0 v1 => (L.lk v v0 v1).const (rd o) L.cl
  have a1 := L.le a ha.1 ha.2; have a0 := L.nn a ha.1 ha.2
  have b1 := L.le b hb.1 hb.2; have b0 := L.nn b hb.1 hb.2
  have ra := rep a ha.1 ha.2; have rb := rep b hb.1 hb.2
  unfold parts
  have hlen : (mg o (rd o a) (rd o b)).length = o.length := by simp [mg]
  rw [hlen]
  have hz : (max (rd o a) (rd o b)).toNat < o.length := by omega
  have hzc : (((max (rd o a) (rd o b)).toNat : Nat) : Int) = max (rd o a) (rd o b) := by omega
  have hrep : rd o (max (rd o a) (rd o b)) = max (rd o a) (rd o b) := by
    rcases Int.le_total (rd o a) (rd o b) with c | c
    · rw [Int.max_eq_right c]; exact rb
    · rw [Int.max_eq_left c]; exact ra
  refine filter_one _ _ (max (rd o a) (rd o b)).toNat o.length hz (fun i hi hne => ?_) ?_ ?_
  · rw [rd_mg _ _ _ _ (by omega) (by omega)]
    split
    · next c =>
      have hne2 : (i : Int) ≠ max (rd o a) (rd o b) := by omega
      have i1 := L.le i (by omega) (by omega)
      rw [decide_eq_false (by omega), decide_eq_false (by omega)]
    · rfl
  · rw [hzc, rd_mg _ _ _ _ (by omega) (by omega), hrep, if_pos rfl, decide_eq_false (by omega)]
  · rw [hzc, hrep]; simp
theorem parts_iota (n : Int) (hn : 0 ≤ n) : parts (iota n) = n.toNat := by
  unfold parts
  have hl := iota_len n hn
  rw [List.filter_eq_self.2 (fun i hi => ?_), List.length_range]
  · omega
  · have := List.mem_range.1 hi
    rw [rd_iota n i (by omega) (by omega)]; simp
theorem ft_parts {n : Int} (hn : 0 ≤ n) {l : List Run} (hv : VL n l) : ∀ m, m ≤ l.length → parts (leastR n (pk l (ftree n l m))) + (ftree n l m).length = n.toNat
  | 0, _ => by
    show parts (leastR n []) + 0 = _
    rw [show leastR n [] = iota n from rfl, parts_iota n hn]
    omega
  | m + 1, hm => by
    have ih := ft_parts hn hv m (by omega)
    have hr := hv _ (rdT_mem (l := l) (k := m) (by omega))
    have hV := ft_VL (m := m) hv (by omega)
    have L := leastR_lst hn _ hV
    rw [ftree, ftStep]
    split
    · exact ih
    · next c =>
      have := parts_mg L ⟨hr.1, hr.2.1⟩ ⟨hr.2.2.1, hr.2.2.2⟩ c
      rw [pk_snoc, leastR_snoc, List.length_append, List.length_singleton]
      omega
/-- Whole: one part. -/
theorem parts_whole {n : Int} (hn : 1 ≤ n) {l : List Run} (hv : VL n l) (hw : ∀ v, 0 ≤ v → v < n → Lk l 0 v) : parts (leastR n l) = 1 := by
  have L := leastR_lst (by omega) l hv
  have hl := L.len
  have e0 : rd (leastR n l) 0 = 0 := by have := L.le 0 (by omega) (by omega); have := L.nn 0 (by omega) (by omega); omega
  have ez : ∀ v, 0 ≤ v → v < n → rd (leastR n l) v = 0 := fun v v0 v1 => by rw [← (lk_iff L ⟨by omega, by omega⟩ ⟨v0, v1⟩).1 (hw v v0 v1), e0]
  unfold parts
  have h := filter_one (fun _ => false) (fun i => decide (rd (leastR n l) (i : Int) = (i : Int))) 0 (leastR n l).length (by omega) (fun i hi hne => by
    rw [ez i (by omega) (by omega)]; simp; omega) rfl (by simp [e0])
  rw [← h]
  simp
/-! ways -/
inductive Way (l : List Run) (t : List Int) : List Int → Int → Int → Prop
  | nil (a : Int) : Way l t [] a a
  | up {k : Int} {w : List Int} {b : Int} (hk : k ∈ t) (h : Way l t w (rdT l k).f1 b) : Way l t ((k + 1) :: w) (rdT l k).f0 b
  | dn {k : Int} {w : List Int} {b : Int} (hk : k ∈ t) (h : Way l t w (rdT l k).f0 b) : Way l t (-(k + 1) :: w) (rdT l k).f1 b
theorem Way.snoc_up {l : List Run} {t : List Int} {w : List Int} {a b k : Int} (h : Way l t w a b) (hk : k ∈ t) (e : (rdT l k).f0 = b) : Way l t (w ++ [k + 1]) a (rdT l k).f1 := by
  induction h with
  | nil a => rw [← e]; exact .up hk (.nil _)
  | up h1 _ ih => exact .up h1 (ih e)
  | dn h1 _ ih => exact .dn h1 (ih e)
theorem Way.snoc_dn {l : List Run} {t : List Int} {w : List Int} {a b k : Int} (h : Way l t w a b) (hk : k ∈ t) (e : (rdT l k).f1 = b) : Way l t (w ++ [-(k + 1)]) a (rdT l k).f0 := by
  induction h with
  | nil a => rw [← e]; exact .dn hk (.nil _)
  | up h1 _ ih => exact .up h1 (ih e)
  | dn h1 _ ih => exact .dn h1 (ih e)
/-- The rise of a number. -/
def nrise (l : List Run) (x : Int) : Int := if x > 0 then (rdT l (x - 1)).f2 else -(rdT l (-x - 1)).f2
def wsum (l : List Run) : List Int → Int
  | [] => 0
  | x :: w => nrise l x + wsum l w
theorem Way.sum {l : List Run} {t : List Int} (ht : ∀ k ∈ t, 0 ≤ k) {h : Int → Int} (hp : pot h (pk l t)) {w : List Int} {a b : Int} (hw : Way l t w a b) : wsum l w = h b - h a := by
  induction hw with
  | nil a => simp [wsum]
  | @up k w b hk _ ih =>
    have := ht k hk
    have e := hp (rdT l k) (List.mem_map.2 ⟨k, hk, rfl⟩)
    rw [wsum, ih, nrise, if_pos (by omega), show k + 1 - 1 = k by omega]
    omega
  | @dn k w b hk _ ih =>
    have := ht k hk
    have e := hp (rdT l k) (List.mem_map.2 ⟨k, hk, rfl⟩)
    rw [wsum, ih, nrise, if_neg (by omega), show -(-(k + 1)) - 1 = k by omega]
    omega
end Go.Proofs.Ytmcfhmflncghiaa.Pure
namespace Go.Proofs.Ytmcfhmflncghiaa.Pure
open Go.RowKit Go.Proofs.Ytmcfhmflncghiaa.Q Go.Proofs.Ytmcfhmflncghiaa.TreeW Go.Proofs.YtmcfhmflncghiaaW.PrintWords Go.Proofs.YtmcfhmflncghiaaW.PrintLast Go.Proofs.YtmcfhmflncghiaaW.PrintMore
theorem rdOf_set (o : List Bool) (i v : Int) (x : Bool) (h0 : 0 ≤ i) (hv : 0 ≤ v) (hl : v < o.length) : rdOf false (o.set i.toNat x) v = if v = i then x else rdOf false o v := by
  unfold rdOf
  obtain ⟨a, rfl⟩ : ∃ a : Nat, i = a := ⟨i.toNat, by omega⟩
  obtain ⟨b, rfl⟩ : ∃ b : Nat, v = b := ⟨v.toNat, by omega⟩
  simp only [Int.toNat_natCast, List.getD, List.getElem?_set]
  by_cases e : a = b
  · subst e; rw [if_pos rfl, if_pos rfl, if_pos (by omega)]; rfl
  · rw [if_neg e, if_neg (by omega)]
theorem count_set_false : ∀ (o : List Bool) (i : Nat), (h : i < o.length) → o[i] = false → (o.set i true).count false + 1 = o.count false
  | [], i, h, _ => by simp at h
  | x :: o, 0, _, e => by
    simp only [List.getElem_cons_zero] at e
    simp [List.set_cons_zero, e]
  | x :: o, i + 1, h, e => by
    have ih := count_set_false o i (by simpa using h) (by simpa using e)
    simp only [List.set_cons_succ, List.count_cons]
    omega
theorem count_rdOf (o : List Bool) (x : Int) (h0 : 0 ≤ x) (h1 : x < o.length) (e : rdOf false o x = false) : (o.set x.toNat true).count false + 1 = o.count false := by
  obtain ⟨i, rfl⟩ : ∃ i : Nat, x = i := ⟨x.toNat, by omega⟩
  have hi : i < o.length := by omega
  refine count_set_false o i hi ?_
  unfold rdOf at e
  simpa [List.getD, hi] using e
/-- What a branch must be. -/
def okB (l : List Run) (t : List Int) (a : Int) (sn : List Bool) (x : Br) : Prop := (0 ≤ x.1 ∧ x.1 < 6) ∧ rdOf false sn x.1 = true ∧ Way l t x.2 a x.1 ∧ x.2.length + sn.count false ≤ 5
structure TinOut (l : List Run) (t : List Int) (a nd : Int) (xs : List Int) (st : List Br) (sn : List Bool) (st' : List Br) (sn' : List Bool) : Prop where
  len : sn'.length = 6
  grow : ∀ v, 0 ≤ v → v < 6 → rdOf false sn v = true → rdOf false sn' v = true
  done : ∀ k ∈ xs, ((rdT l k).f1 = nd → rdOf false sn' (rdT l k).f0 = true) ∧ ((rdT l k).f0 = nd → rdOf false sn' (rdT l k).f1 = true)
  new : ∀ v, 0 ≤ v → v < 6 → rdOf false sn' v = true → rdOf false sn v = true ∨ v ∈ st'.map (·.1)
  keep : ∀ x ∈ st, x ∈ st'
  ok : (∀ x ∈ st, okB l t a sn x) → ∀ x ∈ st', okB l t a sn' x
  cnt : st'.length + sn'.count false = st.length + sn.count false
  le : sn'.count false ≤ sn.count false
theorem tstep_ok {l : List Run} {t : List Int} {a nd num nx : Int} {way : List Int} {st : List Br} {sn : List Bool} (hlen : sn.length = 6) (hnx : 0 ≤ nx ∧ nx < 6) (hw : Way l t (way ++ [num]) a nx) (hwl : way.length + sn.count false ≤ 5) (hst : st.length + sn.count false ≤ 10) :
    ∃ st' sn', tstep num nx way st sn = some (st', sn') ∧ TinOut l t a nd [] st sn st' sn' ∧ rdOf false sn' nx = true := by
  unfold tstep
  rw [if_pos ⟨hnx.1, by omega⟩]
  by_cases c : rdOf false sn nx = true
  · rw [if_pos c]
    exact ⟨st, sn, rfl, ⟨hlen, fun _ _ _ h => h, by simp, fun _ _ _ h => .inl h, fun _ h => h, fun h => h, rfl, Nat.le_refl _⟩, c⟩
  · have hc := count_rdOf sn nx hnx.1 (by omega) (Bool.eq_false_iff.2 c)
    have hset := fun v v0 v1 => rdOf_set sn nx v true hnx.1 v0 (show v < (sn.length : Int) by rw [hlen]; exact v1)
    rw [if_neg c, if_pos ⟨by omega, by omega⟩]
    refine ⟨_, _, rfl, ⟨by rw [List.length_set]; exact hlen, fun v v0 v1 h => ?_, by simp, fun v v0 v1 h => ?_, fun x hx => List.mem_append_left _ hx, fun hok x hx => ?_, ?_, by omega⟩, ?_⟩
    · rw [hset v v0 v1]; split; rfl; exact h
    · rw [hset v v0 v1] at h
      split at h
      · next q => exact .inr (by rw [q]; simp)
      · exact .inl h
    · rcases List.mem_append.1 hx with q | q
      · obtain ⟨h1, h2, h3, h4⟩ := hok x q
        refine ⟨h1, ?_, h3, by omega⟩
        rw [hset x.1 h1.1 h1.2]; split; rfl; exact h2
      · rw [List.mem_singleton.1 q]
        refine ⟨hnx, ?_, hw, ?_⟩
        · rw [hset nx hnx.1 hnx.2, if_pos rfl]
        · show (way ++ [num]).length + _ ≤ 5
          rw [List.length_append, List.length_singleton]; omega
    · rw [List.length_append, List.length_singleton]; omega
    · rw [hset nx hnx.1 hnx.2, if_pos rfl]
theorem tin_ok {n : Int} {l : List Run} {t : List Int} (hn : n ≤ 6) (hv : VL n l) (hl : l.length ≤ 12) (ht : ∀ k ∈ t, 0 ≤ k ∧ k < (l.length : Int)) {a nd : Int} {way : List Int} : ∀ (xs : List Int) (st : List Br) (sn : List Bool), (∀ k ∈ xs, k ∈ t) → sn.length = 6 → (0 ≤ nd ∧ nd < 6) → rdOf false sn nd = true → Way l t way a nd → way.length + sn.count false ≤ 5 → st.length + sn.count false ≤ 10 →
    ∃ st' sn', tin l nd way xs st sn = some (st', sn') ∧ TinOut l t a nd xs st sn st' sn'
  | [], st, sn, _, hlen, _, _, _, _, _ => ⟨st, sn, rfl, ⟨hlen, fun _ _ _ h => h, by simp, fun _ _ _ h => .inl h, fun _ h => h, fun h => h, rfl, Nat.le_refl _⟩⟩
  | x :: xs, st, sn, hxs, hlen, hndr, hnd, hw, hwl, hst => by
    have hx := hxs x (by simp)
    have hxr := ht x hx
    have hm : rdT l x ∈ l := by
      obtain ⟨i, rfl⟩ : ∃ i : Nat, x = i := ⟨x.toNat, by omega⟩
      exact rdT_mem (by omega)
    have hb := hv _ hm
    have e1 : wrap64 (x + 1) = x + 1 := nw64 (by omega) (by omega)
    have e2 : wrap64 (-(x + 1)) = -(x + 1) := nw64 (by omega) (by omega)
    have key : ∃ st1 sn1, tone l nd way x st sn = some (st1, sn1) ∧ TinOut l t a nd [] st sn st1 sn1 ∧ ((rdT l x).f1 = nd → rdOf false sn1 (rdT l x).f0 = true) ∧ ((rdT l x).f0 = nd → rdOf false sn1 (rdT l x).f1 = true) := by
      unfold tone
      rw [if_pos hxr, e1, e2]
      by_cases c1 : (rdT l x).f1 = nd
      · rw [if_pos c1]
        obtain ⟨st1, sn1, h1, h2, h3⟩ := tstep_ok (nd := nd) hlen (num := -(x + 1)) (nx := (rdT l x).f0) ⟨hb.1, by omega⟩ (hw.snoc_dn hx c1) hwl hst
        exact ⟨st1, sn1, h1, h2, fun _ => h3, fun _ => by rw [c1]; exact h2.grow nd hndr.1 hndr.2 hnd⟩
      · rw [if_neg c1]
        by_cases c2 : (rdT l x).f0 = nd
        · rw [if_pos c2]
          obtain ⟨st1, sn1, h1, h2, h3⟩ := tstep_ok (nd := nd) hlen (num := x + 1) (nx := (rdT l x).f1) ⟨hb.2.2.1, by omega⟩ (hw.snoc_up hx c2) hwl hst
          exact ⟨st1, sn1, h1, h2, fun q => absurd q c1, fun _ => h3⟩
        · rw [if_neg c2]
          exact ⟨st, sn, rfl, ⟨hlen, fun _ _ _ h => h, by simp, fun _ _ _ h => .inl h, fun _ h => h, fun h => h, rfl, Nat.le_refl _⟩, fun q => absurd q c1, fun q => absurd q c2⟩
    obtain ⟨st1, sn1, h1, h2, h3, h4⟩ := key
    have hr : rdOf false sn1 nd = true := h2.grow nd hndr.1 hndr.2 hnd
    have hle := h2.le; have hcnt := h2.cnt
    obtain ⟨st2, sn2, g1, g2⟩ := tin_ok hn hv hl ht xs st1 sn1 (fun k hk => hxs k (by simp [hk])) h2.len hndr hr hw (by omega) (by omega)
    refine ⟨st2, sn2, by rw [tin, h1]; exact g1, ⟨g2.len, fun v v0 v1 h => g2.grow v v0 v1 (h2.grow v v0 v1 h), fun k hk => ?_, fun v v0 v1 h => ?_, fun x hx => g2.keep x (h2.keep x hx), fun h => g2.ok (h2.ok h), by have := g2.cnt; omega, by have := g2.le; omega⟩⟩
    · rcases List.mem_cons.1 hk with rfl | q
      · exact ⟨fun c => g2.grow _ hb.1 (by omega) (h3 c), fun c => g2.grow _ hb.2.2.1 (by omega) (h4 c)⟩
      · exact g2.done k q
    · rcases g2.new v v0 v1 h with q | q
      · rcases h2.new v v0 v1 q with z | z
        · exact .inl z
        · obtain ⟨y, hy, e⟩ := List.mem_map.1 z
          exact .inr (List.mem_map.2 ⟨y, g2.keep y hy, e⟩)
      · exact .inr q
theorem tout_ok {n : Int} {l : List Run} {t : List Int} (hn : n ≤ 6) (hv : VL n l) (hl : l.length ≤ 12) (ht : ∀ k ∈ t, 0 ≤ k ∧ k < (l.length : Int)) {a b : Int} (har : 0 ≤ a ∧ a < 6) (hlk : Lk (pk l t) a b) : ∀ (k : Nat) (st : List Br) (sn : List Bool), st.length + sn.count false < k → st.length + sn.count false ≤ 10 → sn.length = 6 →
    (∀ x ∈ st, okB l t a sn x) → rdOf false sn a = true → (0 ≤ b ∧ b < 6) → (rdOf false sn b = true → b ∈ st.map (·.1)) →
    (∀ u, 0 ≤ u → u < 6 → rdOf false sn u = true → u ∉ st.map (·.1) → ∀ j ∈ t, ((rdT l j).f1 = u → rdOf false sn (rdT l j).f0 = true) ∧ ((rdT l j).f0 = u → rdOf false sn (rdT l j).f1 = true)) →
    ∃ w, tout l t b k st sn = some w ∧ Way l t w a b ∧ w.length ≤ 5
  | 0, _, _, h, _, _, _, _, _, _, _ => by omega
  | k + 1, st, sn, hk, h10, hlen, hok, ha, hbr, hb, hcl => by
    rw [tout]
    rcases List.eq_nil_or_concat st with rfl | ⟨st, x, e⟩
    · exfalso
      have hc : ∀ r ∈ pk l t, (rdOf false sn r.f0 = true) = (rdOf false sn r.f1 = true) := fun r hr => by
        obtain ⟨j, hj, rfl⟩ := List.mem_map.1 hr
        have hjr := ht j hj
        have hm : rdT l j ∈ l := by
          obtain ⟨i, rfl⟩ : ∃ i : Nat, j = i := ⟨j.toNat, by omega⟩
          exact rdT_mem (by omega)
        have hb2 := hv _ hm
        exact propext ⟨fun q => (hcl _ hb2.1 (by omega) q (by simp) j hj).2 rfl, fun q => (hcl _ hb2.2.2.1 (by omega) q (by simp) j hj).1 rfl⟩
      have := (hlk.const (fun v => rdOf false sn v = true) hc).mp ha
      simpa using hb this
    · have e2 : st ++ [x] = st.concat x := by simp
      rw [e, ← e2] at hk h10 hok hb hcl ⊢
      rw [List.getLast?_append, List.getLast?_singleton, List.dropLast_concat]
      dsimp only [Option.or]
      obtain ⟨o1, o2, o3, o4⟩ := hok x (by simp)
      rw [List.length_append, List.length_singleton] at hk h10
      by_cases c : x.1 = b
      · rw [if_pos c]
        exact ⟨x.2, rfl, by rw [← c]; exact o3, by omega⟩
      · rw [if_neg c]
        obtain ⟨st', sn', h1, h2⟩ := tin_ok hn hv hl ht (a := a) (nd := x.1) (way := x.2) t st sn (fun _ h => h) hlen o1 o2 o3 o4 (by omega)
        rw [h1]
        simp only [Option.bind_some]
        have hcnt := h2.cnt
        refine tout_ok hn hv hl ht har hlk k st' sn' (by omega) (by omega) h2.len (h2.ok fun y hy => hok y (by simp [hy])) (h2.grow a har.1 har.2 ha) hbr (fun q => ?_) (fun u u0 u1 us hu j hj => ?_)
        · rcases h2.new b hbr.1 hbr.2 q with z | z
          · have := hb z
            rw [List.map_append, List.mem_append] at this
            rcases this with y | y
            · obtain ⟨y1, y2, y3⟩ := List.mem_map.1 y
              exact List.mem_map.2 ⟨y1, h2.keep y1 y2, y3⟩
            · exact absurd (by simpa using y) (fun q : b = x.1 => c q.symm)
          · exact z
        · by_cases q : u = x.1
          · subst q; exact h2.done j hj
          · have hjr := ht j hj
            have hm : rdT l j ∈ l := by
              obtain ⟨i, rfl⟩ : ∃ i : Nat, j = i := ⟨j.toNat, by omega⟩
              exact rdT_mem (by omega)
            have hb2 := hv _ hm
            rcases h2.new u u0 u1 us with z | z
            · have := hcl u u0 u1 z (by
                intro hm2
                rw [List.map_append, List.mem_append] at hm2
                rcases hm2 with y | y
                · obtain ⟨y1, y2, y3⟩ := List.mem_map.1 y
                  exact hu (List.mem_map.2 ⟨y1, h2.keep y1 y2, y3⟩)
                · exact q (by simpa using y)) j hj
              exact ⟨fun s => h2.grow _ hb2.1 (by omega) (this.1 s), fun s => h2.grow _ hb2.2.2.1 (by omega) (this.2 s)⟩
            · exact absurd z hu
theorem treeR_ok {n : Int} {l : List Run} {t : List Int} (hn : n ≤ 6) (hv : VL n l) (hl : l.length ≤ 12) (ht : ∀ k ∈ t, 0 ≤ k ∧ k < (l.length : Int)) (htl : t.length ≤ 1000) {a b : Int} (ha : 0 ≤ a ∧ a < n) (hb : 0 ≤ b ∧ b < n) (hlk : Lk (pk l t) a b) : ∃ w, treeR 100 l t a b = some w ∧ Way l t w a b ∧ w.length ≤ 5 := by
  unfold treeR
  rw [if_pos ⟨ha.1, by omega, by omega, htl⟩]
  have hset := fun v (v0 : (0 : Int) ≤ v) (v1 : v < 6) => rdOf_set (List.replicate 6 false) a v true ha.1 v0 (by simpa using v1)
  have hr : ∀ v : Int, rdOf false (List.replicate 6 false) v = false := fun v => by unfold rdOf; rw [List.getD_eq_getElem?_getD, List.getElem?_replicate]; split <;> rfl
  have hc := count_rdOf (List.replicate 6 false) a ha.1 (by simp; omega) (hr a)
  rw [List.count_replicate_self] at hc
  have hs : ∀ v : Int, 0 ≤ v → v < 6 → rdOf false ((List.replicate 6 false).set a.toNat true) v = true → v = a := fun v v0 v1 h => by
    rw [hset v v0 v1, hr] at h
    by_cases q : v = a
    · exact q
    · rw [if_neg q] at h; cases h
  have hsa : rdOf false ((List.replicate 6 false).set a.toNat true) a = true := by rw [hset a ha.1 (by omega), if_pos rfl]
  refine tout_ok hn hv hl ht ⟨ha.1, by omega⟩ hlk 100 _ _ (by simp only [List.length_singleton]; omega) (by simp only [List.length_singleton]; omega) (by simp) (fun x hx => ?_) hsa ⟨hb.1, by omega⟩ (fun q => by rw [hs b hb.1 (by omega) q]; simp) (fun u u0 u1 us hu => absurd (by rw [hs u u0 u1 us]; simp) hu)
  rw [List.mem_singleton.1 hx]
  exact ⟨⟨ha.1, by show a < 6; omega⟩, hsa, .nil a, by show ([] : List Int).length + _ ≤ 5; simp only [List.length_nil]; omega⟩
end Go.Proofs.Ytmcfhmflncghiaa.Pure
namespace Go.Proofs.Ytmcfhmflncghiaa.Pure
open Go.RowKit Go.Proofs.Ytmcfhmflncghiaa.Q Go.Proofs.Ytmcfhmflncghiaa.TreeW Go.Proofs.YtmcfhmflncghiaaW.PrintWords Go.Proofs.YtmcfhmflncghiaaW.PrintLast Go.Proofs.YtmcfhmflncghiaaW.PrintMore
theorem pick_l0 {l : List Run} (suf : List Int) : ∀ (pre : List Int) (acc : List Run) (k : Nat), suf.length < k → pre.length + suf.length ≤ 100 → acc.length + suf.length ≤ 100 → (∀ x ∈ suf, 0 ≤ x ∧ x < (l.length : Int)) →
    impl_pick.l0 k l acc (pre ++ suf) ((pre ++ suf).length : Int) (pre.length : Int) = some (acc ++ pk l suf) := by
  induction suf with
  | nil =>
    intro pre acc k hk _ _ _
    obtain ⟨k, rfl⟩ : ∃ m, k = m + 1 := ⟨k - 1, by omega⟩
    simp [impl_pick.l0, pk]
  | cons y suf ih =>
    intro pre acc k hk hl ha hx
    simp only [List.length_cons] at hk hl ha
    obtain ⟨k, rfl⟩ : ∃ m, k = m + 1 := ⟨k - 1, by omega⟩
    have hy := hx y (by simp)
    rw [impl_pick.l0, if_pos (len_midI _ _ _), if_pos (by omega), if_pos (len_midI _ _ _), rd_midI, if_pos hy.1, if_pos hy.2, if_pos (by omega), next_midI pre y (by omega), app_midI pre suf y]
    have := ih (pre ++ [y]) (acc ++ [rd_T32 l y]) k (by omega) (by simp; omega) (by simp; omega) (fun x hm => hx x (by simp [hm]))
    refine this.trans ?_
    simp [pk]
theorem pick_eq (k : Nat) {l : List Run} {t : List Int} (hk : 50 < k) (ht : t.length ≤ 20) (hx : ∀ x ∈ t, 0 ≤ x ∧ x < (l.length : Int)) : impl_pick.f k l t = some (pk l t) := by
  unfold impl_pick.f
  rw [if_pos (by omega), if_pos (by omega)]
  have := pick_l0 (l := l) t [] [] k (by omega) (by simp; omega) (by simp; omega) hx
  simpa using this
theorem ft_len (n : Int) (l : List Run) : ∀ m, (ftree n l m).length ≤ m
  | 0 => by simp [ftree]
  | m + 1 => by
    have := ft_len n l m
    rw [ftree, ftStep]
    split
    · omega
    · rw [List.length_append, List.length_singleton]; omega
theorem pk_valid {n : Int} {l : List Run} (hv : nvB n l = true) {t : List Int} (ht : t.length ≤ 12) (hx : ∀ x ∈ t, 0 ≤ x ∧ x < (l.length : Int)) : nvB n (pk l t) = true := by
  have hn := nvB_n hv
  unfold nvB at hv ⊢
  rw [Bool.and_eq_true, decide_eq_true_iff, List.all_eq_true] at hv ⊢
  refine ⟨⟨hn.1, hn.2.1, by simp [pk]; exact ht⟩, fun r hr => hv.2 r (pk_sub hx r hr)⟩
theorem leastLinked_eq {n : Int} {l : List Run} (hv : nvB n l = true) : impl_leastLinked.f n l = some (leastR n l) := by
  unfold impl_leastLinked.f; rw [if_pos hv]
theorem TreeFirst_l0 {n : Int} {l : List Run} (hv : nvB n l = true) (c : Nat) : ∀ (i k : Nat), l.length - i = c → i ≤ l.length → c + 55 < k →
    impl_TreeFirst.l0 k n l (ftree n l i) l (l.length : Int) (i : Int) = some (ftree n l l.length, true) := by
  have hn := nvB_n hv
  have hVL := nvB_VL hv
  induction c with
  | zero =>
    intro i k hc hi hk
    obtain ⟨k, rfl⟩ : ∃ m, k = m + 1 := ⟨k - 1, by omega⟩
    rw [impl_TreeFirst.l0, if_neg (by omega), show i = l.length by omega]
  | succ c ih =>
    intro i k hc hi hk
    obtain ⟨k, rfl⟩ : ∃ m, k = m + 1 := ⟨k - 1, by omega⟩
    have hft := ft_len n l i
    have hlt := ft_lt n l i
    have hx : ∀ x ∈ ftree n l i, 0 ≤ x ∧ x < (l.length : Int) := fun x hm => by have := hlt x hm; omega
    have hpv := pk_valid hv (by omega) hx
    have hL := (leastR_lst (by omega) _ (nvB_VL hpv)).len
    have hr := hVL _ (rdT_mem (l := l) (k := i) (by omega))
    dsimp only [rdT] at hr
    have hnx := ih (i + 1) k (by omega) (by omega) (by omega)
    rw [ftree, ftStep] at hnx
    rw [impl_TreeFirst.l0, if_pos (by omega), if_pos (by omega), if_pos (by omega), pick_eq k (by omega) (by omega) hx]
    simp only [Option.bind_some]
    rw [leastLinked_eq hpv]
    simp only [Option.bind_some]
    rw [if_pos hr.1, if_pos (by omega), if_pos hr.2.2.1, if_pos (by omega), nw64 (x := (i : Int) + 1) (by omega) (by omega)]
    split
    · next c1 =>
      rw [if_pos c1] at hnx
      exact hnx
    · next c1 =>
      rw [if_neg c1] at hnx
      rw [if_pos (by omega)]
      exact hnx
theorem TreeFirst_eq (k : Nat) {n : Int} {l : List Run} (hk : 100 < k) (hw : wholeB n l = true) : impl_TreeFirst.f k n l = some (ftree n l l.length, true) := by
  have hv := (wholeB_iff.1 hw).1
  have hn := nvB_n hv
  unfold impl_TreeFirst.f
  rw [NetWhole_eq k n l (by omega), hw]
  simp only [Option.bind_some]
  rw [if_pos trivial]
  have := TreeFirst_l0 hv l.length 0 k (by omega) (by omega) (by omega)
  exact this
theorem Index_l0 (x : Int) (suf : List Int) : ∀ (pre : List Int) (k : Nat), suf.length < k → pre.length + suf.length ≤ 100 → ∃ v, slices_Index_int_int.l0 k (pre ++ suf) x ((pre ++ suf).length : Int) (pre.length : Int) = some v ∧ (v ≥ 0 ↔ x ∈ suf) := by
  induction suf with
  | nil =>
    intro pre k hk _
    obtain ⟨k, rfl⟩ : ∃ m, k = m + 1 := ⟨k - 1, by omega⟩
    exact ⟨-1, by simp [slices_Index_int_int.l0], by simp⟩
  | cons y suf ih =>
    intro pre k hk hl
    simp only [List.length_cons] at hk hl
    obtain ⟨k, rfl⟩ : ∃ m, k = m + 1 := ⟨k - 1, by omega⟩
    rw [slices_Index_int_int.l0, if_pos (len_midI _ _ _), if_pos (by omega), if_pos (len_midI _ _ _), rd_midI]
    by_cases c : x = y
    · rw [if_pos c]
      exact ⟨_, rfl, by simp [c]⟩
    · rw [if_neg c, next_midI pre y (by omega), app_midI pre suf y]
      obtain ⟨v, h1, h2⟩ := ih (pre ++ [y]) k (by omega) (by simp; omega)
      exact ⟨v, h1, by rw [h2]; simp [c]⟩
theorem Contains_eq (k : Nat) {t : List Int} (x : Int) (hk : 50 < k) (ht : t.length ≤ 20) : slices_Contains_int_int.f k t x = some (decide (x ∈ t)) := by
  obtain ⟨v, h1, h2⟩ := Index_l0 x t [] k (by omega) (by simp; omega)
  simp only [List.nil_append, List.length_nil] at h1
  rw [show ((0 : Nat) : Int) = 0 from rfl] at h1
  unfold slices_Contains_int_int.f slices_Index_int_int.f
  rw [h1]
  simp only [Option.bind_some]
  congr 1
  rw [decide_eq_decide]; exact h2
/-- The run of a number, in its direction. -/
def nrun (l : List Run) (x : Int) : Run := if x > 0 then rdT l (x - 1) else ⟨(rdT l (-x - 1)).f1, (rdT l (-x - 1)).f0, -(rdT l (-x - 1)).f2, (rdT l (-x - 1)).f3⟩
theorem rdT_any {l : List Run} {x : Int} (h0 : 0 ≤ x) (h1 : x < (l.length : Int)) : rdT l x ∈ l := by
  obtain ⟨i, rfl⟩ : ∃ i : Nat, x = i := ⟨x.toNat, by omega⟩
  exact rdT_mem (by omega)
theorem nvB_all {n : Int} {l : List Run} (hv : nvB n l = true) {r : Run} (hr : r ∈ l) : (0 ≤ r.f0 ∧ r.f0 < n ∧ 0 ≤ r.f1 ∧ r.f1 < n ∧ r.f0 ≠ r.f1) ∧ (-100000 ≤ r.f2 ∧ r.f2 ≤ 100000) ∧ 1 ≤ r.f3 ∧ r.f3 ≤ 9 := by
  unfold nvB at hv
  rw [Bool.and_eq_true, List.all_eq_true] at hv
  have := hv.2 r hr
  unfold rvB at this
  exact of_decide_eq_true this
theorem numberRun_eq (k : Nat) {n : Int} {l : List Run} (hk : 1 < k) (hv : nvB n l = true) {x : Int} (hx : x ≠ 0 ∧ -(l.length : Int) ≤ x ∧ x ≤ l.length) :
    impl_numberRun.f k l x = some ((nrun l x).f0, (nrun l x).f1, (nrun l x).f2, (nrun l x).f3, true) := by
  have hn := nvB_n hv
  obtain ⟨k, rfl⟩ : ∃ m, k = m + 1 := ⟨k - 1, by omega⟩
  unfold impl_numberRun.f nrun
  rw [if_neg hx.1, nw64 (x := -(l.length : Int)) (by omega) (by omega), if_neg (by omega), decide_eq_false (by omega), impl_numberRun.j0, if_neg (by simp)]
  by_cases c : x > 0
  · rw [if_pos c, if_pos c, nw64 (x := x - 1) (by omega) (by omega), if_pos (by omega), if_pos (by omega)]
  · have hr := nvB_all hv (rdT_any (l := l) (x := -x - 1) (by omega) (by omega))
    dsimp only [rdT] at hr
    rw [if_neg c, if_neg c, nw64 (x := -x) (by omega) (by omega), nw64 (x := -x - 1) (by omega) (by omega), if_pos (by omega), if_pos (by omega), nw64 (x := -(rd_T32 l (-x - 1)).f2) (by omega) (by omega)]
theorem nrun_f2 (l : List Run) (x : Int) : (nrun l x).f2 = nrise l x := by
  unfold nrun nrise; split <;> rfl
/-- A chain of numbers. -/
def Ch (l : List Run) : Int → List Int → Int → Prop
  | a, [], b => a = b
  | a, x :: w, b => (x ≠ 0 ∧ -(l.length : Int) ≤ x ∧ x ≤ l.length) ∧ (nrun l x).f0 = a ∧ Ch l (nrun l x).f1 w b
theorem Way.ch {l : List Run} {t : List Int} (ht : ∀ k ∈ t, 0 ≤ k ∧ k < (l.length : Int)) {w : List Int} {a b : Int} (h : Way l t w a b) : Ch l a w b := by
  induction h with
  | nil a => exact rfl
  | @up k w b hk _ ih =>
    have := ht k hk
    have e : nrun l (k + 1) = rdT l k := by unfold nrun; rw [if_pos (by omega), show k + 1 - 1 = k by omega]
    exact ⟨by omega, by rw [e], by rw [e]; exact ih⟩
  | @dn k w b hk _ ih =>
    have := ht k hk
    have e : nrun l (-(k + 1)) = ⟨(rdT l k).f1, (rdT l k).f0, -(rdT l k).f2, (rdT l k).f3⟩ := by unfold nrun; rw [if_neg (by omega), show -(-(k + 1)) - 1 = k by omega]
    exact ⟨by omega, by rw [e], by rw [e]; exact ih⟩
theorem Ch.last {l : List Run} {b : Int} : ∀ (z : List Int) (y a : Int), Ch l a (z ++ [y]) b → (nrun l y).f1 = b ∧ y ≠ 0 ∧ -(l.length : Int) ≤ y ∧ y ≤ l.length
  | [], _, _, h => ⟨h.2.2, h.1⟩
  | _ :: z, y, _, h => Ch.last z y _ h.2.2
theorem LoopIs_l0 {n : Int} {l : List Run} (hv : nvB n l = true) (suf : List Int) : ∀ (pre : List Int) (a b : Int) (k : Nat), suf.length + 2 < k → pre.length + suf.length ≤ 100 → Ch l a suf b → impl_LoopIs.l0 k l a (pre ++ suf) ((pre ++ suf).length : Int) (pre.length : Int) = some true := by
  induction suf with
  | nil =>
    intro pre a b k hk _ _
    obtain ⟨k, rfl⟩ : ∃ m, k = m + 1 := ⟨k - 1, by omega⟩
    simp [impl_LoopIs.l0]
  | cons y suf ih =>
    intro pre a b k hk hl hc
    simp only [List.length_cons] at hk hl
    obtain ⟨k, rfl⟩ : ∃ m, k = m + 1 := ⟨k - 1, by omega⟩
    obtain ⟨hx, he, hh⟩ := hc
    · rw [impl_LoopIs.l0, if_pos (len_midI _ _ _), if_pos (by omega), if_pos (len_midI _ _ _), rd_midI, numberRun_eq k (by omega) hv hx]
      simp only [Option.bind_some]
      rw [if_pos trivial, if_pos he, next_midI pre y (by omega), app_midI pre suf y]
      exact ih (pre ++ [y]) _ b k (by omega) (by simp; omega) hh
theorem LoopIs_eq (k : Nat) {n : Int} {l : List Run} (hk : 50 < k) (hv : nvB n l = true) {w : List Int} {a : Int} (hl : 1 ≤ w.length ∧ w.length ≤ 12) (hc : Ch l a w a) : impl_LoopIs.f k n l w = some true := by
  obtain ⟨k, rfl⟩ : ∃ m, k = m + 1 := ⟨k - 1, by omega⟩
  unfold impl_LoopIs.f
  rw [impl_NetValid_eq (k + 1) n l (by omega), hv]
  simp only [Option.bind_some]
  rw [if_pos trivial, if_neg (by omega), decide_eq_false (by omega), impl_LoopIs.j0, if_neg (by simp), nw64 (x := (w.length : Int) - 1) (by omega) (by omega), if_pos (by omega), if_pos (by omega)]
  rcases List.eq_nil_or_concat w with rfl | ⟨z, y, e⟩
  · simp at hl
  · have e2 : w = z ++ [y] := by simpa using e
    obtain ⟨e3, hy⟩ := Ch.last z y a (e2 ▸ hc)
    have e4 : rd w ((w.length : Int) - 1) = y := by
      rw [e2, show (((z ++ [y]).length : Int) - 1) = (z.length : Int) by simp]
      exact rd_midI z [] y
    rw [e4, numberRun_eq k (by omega) hv hy]
    simp only [Option.bind_some]
    rw [if_pos trivial, e3]
    have := LoopIs_l0 hv w [] a a k (by omega) (by simp; omega) hc
    simpa using this
theorem nrise_bd {n : Int} {l : List Run} (hv : nvB n l = true) {x : Int} (hx : x ≠ 0 ∧ -(l.length : Int) ≤ x ∧ x ≤ l.length) : -100000 ≤ nrise l x ∧ nrise l x ≤ 100000 := by
  unfold nrise
  split
  · have := nvB_all hv (rdT_any (l := l) (x := x - 1) (by omega) (by omega)); omega
  · have := nvB_all hv (rdT_any (l := l) (x := -x - 1) (by omega) (by omega)); omega
theorem LoopError_l0 {n : Int} {l : List Run} (hv : nvB n l = true) (suf : List Int) : ∀ (pre : List Int) (a b s : Int) (k : Nat), suf.length + 2 < k → pre.length + suf.length ≤ 100 → Ch l a suf b → -100000 * (pre.length : Int) ≤ s ∧ s ≤ 100000 * (pre.length : Int) →
    impl_LoopError.l0 k l s (pre ++ suf) ((pre ++ suf).length : Int) (pre.length : Int) = some (s + wsum l suf, true) := by
  induction suf with
  | nil =>
    intro pre a b s k hk _ _ _
    obtain ⟨k, rfl⟩ : ∃ m, k = m + 1 := ⟨k - 1, by omega⟩
    simp [impl_LoopError.l0, wsum]
  | cons y suf ih =>
    intro pre a b s k hk hl hc hs
    simp only [List.length_cons] at hk hl
    obtain ⟨k, rfl⟩ : ∃ m, k = m + 1 := ⟨k - 1, by omega⟩
    obtain ⟨hx, he, hh⟩ := hc
    · have hb := nrise_bd hv hx
      rw [impl_LoopError.l0, if_pos (len_midI _ _ _), if_pos (by omega), if_pos (len_midI _ _ _), rd_midI, numberRun_eq k (by omega) hv hx]
      simp only [Option.bind_some]
      rw [nrun_f2, nw64 (x := s + nrise l y) (by omega) (by omega), next_midI pre y (by omega), app_midI pre suf y, ih (pre ++ [y]) _ b _ k (by omega) (by simp; omega) hh (by simp; omega), wsum]
      congr 2; omega
theorem LoopError_eq (k : Nat) {n : Int} {l : List Run} (hk : 60 < k) (hv : nvB n l = true) {w : List Int} {a : Int} (hl : 1 ≤ w.length ∧ w.length ≤ 12) (hc : Ch l a w a) : impl_LoopError.f k n l w = some (wsum l w, true) := by
  unfold impl_LoopError.f
  rw [LoopIs_eq k (by omega) hv hl hc]
  simp only [Option.bind_some]
  rw [if_pos trivial]
  have := LoopError_l0 hv w [] a a 0 k (by omega) (by simp; omega) hc (by simp)
  simpa using this
end Go.Proofs.Ytmcfhmflncghiaa.Pure
namespace Go.Proofs.Ytmcfhmflncghiaa.Pure
open Go.RowKit Go.Proofs.Ytmcfhmflncghiaa.Q Go.Proofs.Ytmcfhmflncghiaa.TreeW Go.Proofs.YtmcfhmflncghiaaW.PrintWords Go.Proofs.YtmcfhmflncghiaaW.PrintLast Go.Proofs.YtmcfhmflncghiaaW.PrintMore
/-- A loop of a run beside the tree. -/
theorem LoopOf_out (q : Nat) {n : Int} {l : List Run} (hq : 200 < q) (hw : wholeB n l = true) {i : Nat} (hi : i < l.length) (hm : (i : Int) ∉ ftree n l l.length) :
    ∃ w, impl_LoopOf.f q n l (i : Int) = some (((i : Int) + 1) :: w, true) ∧ Way l (ftree n l l.length) w (rdT l i).f1 (rdT l i).f0 ∧ w.length ≤ 5 := by
  have hv := (wholeB_iff.1 hw).1
  have hn := nvB_n hv
  have hVL := nvB_VL hv
  have hlt := ft_lt n l l.length
  have htl := ft_len n l l.length
  have hx : ∀ x ∈ ftree n l l.length, 0 ≤ x ∧ x < (l.length : Int) := fun x hm => hlt x hm
  have hr := hVL _ (rdT_mem hi)
  have hlk : Lk (pk l (ftree n l l.length)) (rdT l i).f1 (rdT l i).f0 := by
    refine ft_lk (by omega) hVL l.length (Nat.le_refl _) _ _ ?_
    rw [List.take_length]
    exact (Lk.run (rdT_mem hi)).symm
  obtain ⟨w, e1, e2, e3⟩ := treeR_ok (by omega) hVL (by omega) hx (by omega) ⟨hr.2.2.1, hr.2.2.2⟩ ⟨hr.1, hr.2.1⟩ hlk
  refine ⟨w, ?_, e2, e3⟩
  have et : impl_treeWay.f l (ftree n l l.length) (rd_T32 l (i : Int)).f1 (rd_T32 l (i : Int)).f0 = some w := e1
  unfold impl_LoopOf.f
  rw [TreeFirst_eq q (by omega) hw]
  simp only [Option.bind_some]
  rw [if_pos trivial, if_neg (by omega), if_neg (by omega), Contains_eq q _ (by omega) (by omega), decide_eq_false hm]
  simp only [Option.bind_some]
  rw [if_neg (by simp), if_pos (by omega), if_pos (by omega), et]
  simp only [Option.bind_some]
  rw [if_pos (by simp; omega), nw64 (x := (i : Int) + 1) (by omega) (by omega)]
  rfl
theorem LoopOf_in (q : Nat) {n : Int} {l : List Run} (hq : 200 < q) (hw : wholeB n l = true) {i : Nat} (hi : i < l.length) (hm : (i : Int) ∈ ftree n l l.length) : impl_LoopOf.f q n l (i : Int) = some ([], false) := by
  have hv := (wholeB_iff.1 hw).1
  have hn := nvB_n hv
  have htl := ft_len n l l.length
  unfold impl_LoopOf.f
  rw [TreeFirst_eq q (by omega) hw]
  simp only [Option.bind_some]
  rw [if_pos trivial, if_neg (by omega), if_neg (by omega), Contains_eq q _ (by omega) (by omega), decide_eq_true hm]
  simp only [Option.bind_some]
  rw [if_pos trivial]
/-- The misfit of a run. -/
def err (l : List Run) (h : Int → Int) (i : Nat) : Int := (rdT l i).f2 - (h (rdT l i).f1 - h (rdT l i).f0)
def errF (l : List Run) (t : List Int) (h : Int → Int) : Nat → Nat → List Int
  | 0, _ => []
  | c + 1, i => if (i : Int) ∈ t then errF l t h c (i + 1) else err l h i :: errF l t h c (i + 1)
theorem LoopErrors_l0 {n : Int} {l : List Run} (hw : wholeB n l = true) {h : Int → Int} (hp : pot h (pk l (ftree n l l.length))) (c : Nat) : ∀ (i k : Nat) (acc : List Int), l.length - i = c → i ≤ l.length → c + 250 < k → acc.length + c ≤ 100 →
    impl_LoopErrors.l0 k n l acc (l.length : Int) (i : Int) = some (acc ++ errF l (ftree n l l.length) h c i, true) := by
  have hv := (wholeB_iff.1 hw).1
  have hn := nvB_n hv
  have hlt := ft_lt n l l.length
  induction c with
  | zero =>
    intro i k acc hc hi hk _
    obtain ⟨k, rfl⟩ : ∃ m, k = m + 1 := ⟨k - 1, by omega⟩
    rw [impl_LoopErrors.l0, if_neg (by omega)]
    simp [errF]
  | succ c ih =>
    intro i k acc hc hi hk ha
    obtain ⟨k, rfl⟩ : ∃ m, k = m + 1 := ⟨k - 1, by omega⟩
    have e1 : wrap64 ((i : Int) + 1) = ((i + 1 : Nat) : Int) := by rw [nw64 (by omega) (by omega)]; omega
    rw [impl_LoopErrors.l0, if_pos (by omega)]
    by_cases hm : (i : Int) ∈ ftree n l l.length
    · rw [LoopOf_in k (by omega) hw (by omega) hm]
      simp only [Option.bind_some]
      rw [if_neg (by simp), e1, ih (i + 1) k acc (by omega) (by omega) (by omega) (by omega), errF, if_pos hm]
    · obtain ⟨w, h1, h2, h3⟩ := LoopOf_out k (by omega) hw (show i < l.length by omega) hm
      rw [h1]
      simp only [Option.bind_some]
      have hch : Ch l (rdT l i).f0 (((i : Int) + 1) :: w) (rdT l i).f0 := by
        have e : nrun l ((i : Int) + 1) = rdT l i := by unfold nrun; rw [if_pos (by omega), show (i : Int) + 1 - 1 = (i : Int) by omega]
        exact ⟨by omega, by rw [e], by rw [e]; exact h2.ch (fun k hk => hlt k hk)⟩
      rw [if_pos trivial, LoopError_eq k (by omega) hv (by simp; omega) hch]
      simp only [Option.bind_some]
      have hs := h2.sum (fun k hk => (hlt k hk).1) hp
      have e2 : wsum l (((i : Int) + 1) :: w) = err l h i := by
        rw [wsum, hs, nrise, if_pos (by omega), show (i : Int) + 1 - 1 = (i : Int) by omega]
        unfold err; omega
      rw [if_pos (by omega), e2, e1, ih (i + 1) k _ (by omega) (by omega) (by omega) (by simp; omega), errF, if_neg hm]
      simp
theorem LoopErrors_eq (k : Nat) {n : Int} {l : List Run} (hk : 300 < k) (hw : wholeB n l = true) {h : Int → Int} (hp : pot h (pk l (ftree n l l.length))) : impl_LoopErrors.f k n l = some (errF l (ftree n l l.length) h l.length 0, true) := by
  have hn := nvB_n (wholeB_iff.1 hw).1
  unfold impl_LoopErrors.f
  rw [NetWhole_eq k n l (by omega), hw]
  simp only [Option.bind_some]
  rw [if_pos trivial]
  have := LoopErrors_l0 hw hp l.length 0 k [] (by omega) (by omega) (by omega) (by simp; omega)
  simpa using this
theorem errF_len (l : List Run) (t : List Int) (h : Int → Int) : ∀ (c i : Nat), (errF l t h c i).length ≤ c
  | 0, _ => by simp [errF]
  | c + 1, i => by
    have := errF_len l t h c (i + 1)
    rw [errF]; split
    · omega
    · rw [List.length_cons]; omega
theorem errF_all {l : List Run} {t : List Int} {h : Int → Int} : ∀ (c i : Nat), (∀ x ∈ errF l t h c i, x = 0) ↔ ∀ j, i ≤ j → j < i + c → (j : Int) ∉ t → err l h j = 0
  | 0, i => by simp [errF]; intro j h1 h2; omega
  | c + 1, i => by
    have ih := errF_all (l := l) (t := t) (h := h) c (i + 1)
    rw [errF]
    split
    · next hm =>
      rw [ih]
      constructor
      · intro H j h1 h2 h3
        by_cases q : j = i
        · rw [q] at h3; exact absurd hm h3
        · exact H j (by omega) (by omega) h3
      · exact fun H j h1 h2 h3 => H j (by omega) (by omega) h3
    · next hm =>
      constructor
      · intro H j h1 h2 h3
        by_cases q : j = i
        · rw [q]; exact H _ (by simp)
        · exact ih.1 (fun x hx => H x (by simp [hx])) j (by omega) (by omega) h3
      · intro H x hx
        rcases List.mem_cons.1 hx with q | q
        · rw [q]; exact H i (by omega) (by omega) hm
        · exact ih.2 (fun j h1 h2 h3 => H j (by omega) (by omega) h3) x q
theorem Closes_l0 (suf : List Int) : ∀ (pre : List Int) (k : Nat), suf.length < k → pre.length + suf.length < 100 → impl_LoopCloses.l0 k (pre ++ suf) ((pre ++ suf).length : Int) (pre.length : Int) = some (suf.all (fun x => decide (x = 0))) := by
  induction suf with
  | nil =>
    intro pre k hk _
    obtain ⟨k, rfl⟩ : ∃ m, k = m + 1 := ⟨k - 1, by omega⟩
    simp [impl_LoopCloses.l0]
  | cons y suf ih =>
    intro pre k hk hl
    simp only [List.length_cons] at hk hl
    obtain ⟨k, rfl⟩ : ∃ m, k = m + 1 := ⟨k - 1, by omega⟩
    rw [impl_LoopCloses.l0, if_pos (len_midI _ _ _), if_pos (by omega), if_pos (len_midI _ _ _), rd_midI]
    by_cases c : y = 0
    · rw [if_pos c, next_midI pre y (by omega), app_midI pre suf y, ih (pre ++ [y]) k (by omega) (by simp; omega)]
      simp [c]
    · rw [if_neg c]; simp [c]
/-- The program's LoopCloses, at a whole net, by heights of its tree. -/
theorem LoopCloses_eq (k : Nat) {n : Int} {l : List Run} (hk : 300 < k) (hw : wholeB n l = true) {h : Int → Int} (hp : pot h (pk l (ftree n l l.length))) : impl_LoopCloses.f k n l = some ((errF l (ftree n l l.length) h l.length 0).all (fun x => decide (x = 0))) := by
  have hn := nvB_n (wholeB_iff.1 hw).1
  have hl := errF_len l (ftree n l l.length) h l.length 0
  unfold impl_LoopCloses.f
  rw [LoopErrors_eq k hk hw hp]
  simp only [Option.bind_some]
  rw [if_pos trivial]
  have := Closes_l0 (errF l (ftree n l l.length) h l.length 0) [] k (by omega) (by simp; omega)
  simpa using this
theorem pot_iff {n : Int} {l : List Run} {h : Int → Int} (hp : pot h (pk l (ftree n l l.length))) : (errF l (ftree n l l.length) h l.length 0).all (fun x => decide (x = 0)) = true ↔ pot h l := by
  rw [List.all_eq_true]
  have := errF_all (l := l) (t := ftree n l l.length) (h := h) l.length 0
  constructor
  · intro H r hr
    have H2 := this.1 (fun x hx => of_decide_eq_true (H x hx))
    obtain ⟨i, hi, rfl⟩ := List.getElem_of_mem hr
    by_cases hm : (i : Int) ∈ ftree n l l.length
    · have := hp (rdT l i) (List.mem_map.2 ⟨(i : Int), hm, rfl⟩)
      rwa [rdT_get hi] at this
    · have := H2 i (by omega) (by omega) hm
      unfold err at this
      rw [rdT_get hi] at this
      omega
  · intro H x hx
    refine decide_eq_true (this.2 (fun j _ h2 _ => ?_) x hx)
    have := H _ (rdT_mem (l := l) (k := j) (by omega))
    unfold err; omega
theorem pot_sub {n : Int} {l : List Run} {h : Int → Int} (hp : pot h l) : pot h (pk l (ftree n l l.length)) := fun r hr => hp r (ft_sub (Nat.le_refl _) r hr)
/-- A whole net with heights closes. -/
theorem LoopCloses_pot (k : Nat) {n : Int} {l : List Run} (hk : 300 < k) (hw : wholeB n l = true) {h : Int → Int} (hp : pot h l) : impl_LoopCloses.f k n l = some true := by
  rw [LoopCloses_eq k hk hw (pot_sub hp), (pot_iff (pot_sub hp)).2 hp]
end Go.Proofs.Ytmcfhmflncghiaa.Pure
namespace Go.Proofs.Ytmcfhmflncghiaa.Q
open Go.RowKit Go.Proofs.YtmcfhmflncghiaaW.PrintWords Go.Proofs.YtmcfhmflncghiaaW.PrintLast Go.Proofs.YtmcfhmflncghiaaW.PrintMore
attribute [local go_sem] max2_int min2_int max_two min_two max_three min_three max_four min_four
set_option linter.unusedVariables false
set_option linter.unusedSimpArgs false

/-! ### laws_FnShareRing: function 6 -/
mutual
def laws_FnShareRing.j0 : Nat → List Int → List Int → Bool → List Int → Bool → Bool → Option (Bool)
  | 0, _, _, _, _, _, _ => none
  | k + 1, x4, x5, x6, x7, x8, x44 => if x44 = true then (if (x6 == x8) = true then ((laws_sameInts.f k x5 x7).bind fun t742 => (some t742)) else (some false)) else ((laws_sumOf.f k x5).bind fun t743 => (if t743 = 0 then ((laws_sumOf.f k x4).bind fun t744 => (if t744 = 0 then ((laws_sameInts.f k x5 x4).bind fun t745 => (laws_FnShareRing.j1 k x5 (x4.length : Int) (!t745))) else (laws_FnShareRing.j1 k x5 (x4.length : Int) false))) else (laws_FnShareRing.j1 k x5 (x4.length : Int) true)))
def laws_FnShareRing.j1 : Nat → List Int → Int → Bool → Option (Bool)
  | 0, _, _, _ => none
  | k + 1, x5, x9, x68 => if x68 = true then (some false) else (if x9 < 2 then (laws_FnShareRing.j2 k x5 x9 true) else (laws_FnShareRing.j2 k x5 x9 (decide (x9 > 6))))
def laws_FnShareRing.j2 : Nat → List Int → Int → Bool → Option (Bool)
  | 0, _, _, _ => none
  | k + 1, x5, x9, x74 => if x74 = true then (some ((x5.length : Int) == x9)) else (laws_FnShareRing.l0 k x5 x9 (([] : List (S32))) 0)
def laws_FnShareRing.l0 : Nat → List Int → Int → List (S32) → Int → Option (Bool)
  | 0, _, _, _, _ => none
  | k + 1, x5, x9, x10, x11 => if x11 < x9 then (if x9 = 0 then (none) else (if 0 ≤ x11 then (if x11 < (x5.length : Int) then (if x10.length < 4398046511104 then (laws_FnShareRing.l0 k x5 x9 (x10 ++ [(⟨x11, Int.tmod (wrap64 (x11 + 1)) x9, rd x5 x11, 1⟩ : S32)]) (wrap64 (x11 + 1))) else (none)) else (none)) else (none))) else ((impl_NetValid.f k x9 x10).bind fun t753 => (if t753 = true then ((impl_LoopCloses.f k x9 x10).bind fun t754 => (some t754)) else (some true)))
end
def laws_FnShareRing.f (k : Nat) (l0 : List Int) : Option (Bool) := if (l0.length : Int) > 1048576 then (some true) else ((spec_DrawShareRises.f k l0).bind fun bt727 => ((impl_ShareRises.f k bt727.1 bt727.2).bind fun bt733 => ((spec_ShareRises.f k bt727.1 bt727.2).bind fun bt737 => (if (bt733.2 != bt737.2) = true then (laws_FnShareRing.j0 k bt727.2 bt733.1 bt733.2 bt737.1 bt737.2 true) else ((laws_sameInts.f k bt733.1 bt737.1).bind fun t741 => (if t741 = true then (laws_FnShareRing.j0 k bt727.2 bt733.1 bt733.2 bt737.1 bt737.2 (!bt733.2)) else (laws_FnShareRing.j0 k bt727.2 bt733.1 bt733.2 bt737.1 bt737.2 true)))))))
/-- THE ONE PURE STATEMENT of laws_FnShareRing: yours. -/
def laws_FnShareRing.Pure : Prop := ∀ (l0 : List Int), l0.length ≤ maxLen → l0.length * 1 ≤ 140737488351232 → (∀ x ∈ l0, (Lit.int .u8 x).wf = true) → ∃ k, laws_FnShareRing.f k l0 = some true
end Go.Proofs.Ytmcfhmflncghiaa.Q
namespace Go.Proofs.Ytmcfhmflncghiaa.Pure
open Go.RowKit Go.Proofs.Ytmcfhmflncghiaa.Q Go.Proofs.YtmcfhmflncghiaaW.PrintWords Go.Proofs.YtmcfhmflncghiaaW.PrintLast Go.Proofs.YtmcfhmflncghiaaW.PrintMore
/-- The runs of a ring. -/
def rgR (m : Nat) (out : List Int) (i : Nat) : Run := ⟨(i : Int), Int.tmod ((i : Int) + 1) (m : Int), rd out (i : Int), 1⟩
def ring (m : Nat) (out : List Int) (i : Nat) : List Run := (List.range i).map (rgR m out)
theorem rg_next {m i : Nat} (h : i < m) : Int.tmod ((i : Int) + 1) (m : Int) = if i + 1 = m then 0 else (i : Int) + 1 := by
  rw [show ((i : Int) + 1) = ((i + 1 : Nat) : Int) by omega, ← Int.ofNat_tmod]
  split
  · next c => rw [c, Nat.mod_self]; rfl
  · rw [Nat.mod_eq_of_lt (by omega)]
/-- The heights of a ring. -/
def hgt (out : List Int) (v : Int) : Int := (out.take v.toNat).sum
theorem hgt_step {out : List Int} {i : Nat} (h : i < out.length) : hgt out ((i : Int) + 1) = hgt out (i : Int) + rd out (i : Int) := by
  unfold hgt
  rw [show ((i : Int) + 1).toNat = i + 1 by omega, Int.toNat_natCast, List.take_add_one, List.getElem?_eq_getElem h, List.sum_append, rd_eq out i h]
  simp
theorem ring_pot {m : Nat} {out : List Int} (hl : out.length = m) (hs : out.sum = 0) : pot (hgt out) (ring m out m) := by
  intro r hr
  obtain ⟨i, hi, rfl⟩ := List.mem_map.1 hr
  have hi := List.mem_range.1 hi
  show hgt out (Int.tmod ((i : Int) + 1) (m : Int)) - hgt out (i : Int) = rd out (i : Int)
  have h1 := hgt_step (out := out) (i := i) (by omega)
  rw [rg_next hi]
  split
  · next c =>
    have h2 : hgt out ((i : Int) + 1) = 0 := by
      unfold hgt
      rw [show ((i : Int) + 1).toNat = out.length by omega, List.take_length]; exact hs
    have h3 : hgt out 0 = 0 := by unfold hgt; simp
    omega
  · omega
theorem ring_lk {m : Nat} {out : List Int} : ∀ v : Nat, v < m → Lk (ring m out m) 0 (v : Int)
  | 0, _ => .refl _
  | v + 1, h => by
    have ih := ring_lk (m := m) (out := out) v (by omega)
    have hm : rgR m out v ∈ ring m out m := List.mem_map.2 ⟨v, List.mem_range.2 (by omega), rfl⟩
    have := Lk.fwd hm (show Lk (ring m out m) 0 (rgR m out v).f0 from ih)
    have e : (rgR m out v).f1 = ((v + 1 : Nat) : Int) := by
      show Int.tmod ((v : Int) + 1) (m : Int) = _
      rw [rg_next (by omega), if_neg (by omega)]; omega
    rwa [e] at this
theorem ring_closes (k : Nat) (hk : 300 < k) {m : Nat} {out : List Int} (hl : out.length = m) (hs : out.sum = 0) (hv : nvB m (ring m out m) = true) : impl_LoopCloses.f k m (ring m out m) = some true := by
  refine LoopCloses_pot k hk (wholeB_iff.2 ⟨hv, fun v v0 v1 => ?_⟩) (ring_pot hl hs)
  obtain ⟨i, rfl⟩ : ∃ i : Nat, v = i := ⟨v.toNat, by omega⟩
  exact ring_lk i (by omega)
theorem ring_l0 {m : Nat} {out : List Int} (hm : 2 ≤ m ∧ m ≤ 6) (hl : out.length = m) (hs : out.sum = 0) (c : Nat) : ∀ (i k : Nat), m - i = c → i ≤ m → c + 320 < k → laws_FnShareRing.l0 k out (m : Int) (ring m out i) (i : Int) = some true := by
  induction c with
  | zero =>
    intro i k hc hi hk
    obtain ⟨k, rfl⟩ : ∃ j, k = j + 1 := ⟨k - 1, by omega⟩
    obtain rfl : i = m := by omega
    rw [laws_FnShareRing.l0, if_neg (by omega), impl_NetValid_eq k _ _ (by omega)]
    simp only [Option.bind_some]
    by_cases hv : nvB (i : Int) (ring i out i) = true
    · rw [if_pos hv, ring_closes k (by omega) hl hs hv]; rfl
    · rw [if_neg hv]
  | succ c ih =>
    intro i k hc hi hk
    obtain ⟨k, rfl⟩ : ∃ j, k = j + 1 := ⟨k - 1, by omega⟩
    have e1 : wrap64 ((i : Int) + 1) = (i : Int) + 1 := nw64 (by omega) (by omega)
    have hnx := ih (i + 1) k (by omega) (by omega) (by omega)
    have er : ring m out (i + 1) = ring m out i ++ [rgR m out i] := by unfold ring; rw [List.range_succ, List.map_append]; rfl
    rw [er] at hnx
    rw [laws_FnShareRing.l0, if_pos (by omega), if_neg (by omega), if_pos (by omega), if_pos (by omega), if_pos (by simp [ring]; omega), e1]
    exact hnx
theorem FnShareRing : laws_FnShareRing.Pure := by
  intro l0 _ _ hl0
  refine ⟨2003, ?_⟩
  unfold laws_FnShareRing.f
  split
  · rfl
  · obtain ⟨l, h, hd, hl6, hh6⟩ := DrawRises_ok 2003 (by omega) hl0
    rw [hd, Option.bind_some]
    dsimp only
    rw [impl_ShareRises_eq 2003 l h (by omega) (by omega), Option.bind_some, spec_ShareRises_eq 2003 l h (by omega) (by omega), Option.bind_some, if_neg (by simp)]
    have hlen := risR_len l h
    rw [sameInts_self 2003 _ (by omega) (by omega), Option.bind_some, if_pos rfl, laws_FnShareRing.j0]
    by_cases c : LV l ∧ h.length = l.length ∧ RV h
    · have hb : (risR l h).2 = true := by unfold risR; rw [if_pos c]
      obtain ⟨s1, s2, s3⟩ := ris_sum c
      rw [hb, if_neg (by simp), sumOf_eq 2002 10200000 _ (by omega) s3 (by omega) (by omega), Option.bind_some, if_pos s2]
      have hz := ris_zero c
      generalize (risR l h).1 = out at *
      have hsum : laws_sumOf.f 2002 h = some h.sum := sumOf_eq 2002 100000 h (by omega) (fun x hx => by have := c.2.2 x hx; omega) (by omega) (by omega)
      rw [hsum, Option.bind_some]
      have hj1 : laws_FnShareRing.j1 2002 out (h.length : Int) false = some true := by
        rw [laws_FnShareRing.j1, if_neg (by simp)]
        by_cases c2 : (h.length : Int) < 2
        · rw [if_pos c2, laws_FnShareRing.j2, if_pos rfl, s1]; simp
        · rw [if_neg c2, decide_eq_false (by omega), laws_FnShareRing.j2, if_neg (by simp)]
          exact ring_l0 (m := h.length) (by omega) s1 s2 h.length 0 2000 (by omega) (by omega) (by omega)
      by_cases c3 : h.sum = 0
      · rw [if_pos c3, hz c3, sameInts_self 2002 _ (by omega) (by omega), Option.bind_some]
        rw [hz c3] at hj1
        exact hj1
      · rw [if_neg c3]; exact hj1
    · have hb : risR l h = ([], false) := by unfold risR; rw [if_neg c]
      rw [hb, if_pos (by simp), if_pos (by simp), sameInts_self 2002 _ (by simp) (by simp), Option.bind_some]
end Go.Proofs.Ytmcfhmflncghiaa.Pure
namespace Go.Proofs.Ytmcfhmflncghiaa.Pure
open Go.RowKit Go.Proofs.Ytmcfhmflncghiaa.Q Go.Proofs.YtmcfhmflncghiaaW.PrintWords Go.Proofs.YtmcfhmflncghiaaW.PrintLast Go.Proofs.YtmcfhmflncghiaaW.PrintMore
theorem countb_le : ∀ (o o' : List Bool), o.length = o'.length → (∀ i : Nat, (h : i < o.length) → (h' : i < o'.length) → o[i] = true → o'[i] = true) → o'.count false ≤ o.count false
  | [], [], _, _ => Nat.le_refl _
  | x :: o, y :: o', hl, h => by
    have ih := countb_le o o' (by simpa using hl) (fun i h1 h2 e => by have := h (i + 1) (by simp; omega) (by simp; omega) (by simpa using e); simpa using this)
    have h0 := h 0 (by simp) (by simp)
    simp only [List.count_cons, List.getElem_cons_zero] at h0 ⊢
    cases x <;> cases y <;> simp at h0 ⊢ <;> omega
theorem countb_lt : ∀ (o o' : List Bool), o.length = o'.length → (∀ i : Nat, (h : i < o.length) → (h' : i < o'.length) → o[i] = true → o'[i] = true) → (j : Nat) → (h : j < o.length) → (h' : j < o'.length) → o[j] = false → o'[j] = true → o'.count false < o.count false
  | [], _, _, _, j, h, _, _, _ => by simp at h
  | x :: o, [], hl, _, _, _, _, _, _ => by simp at hl
  | x :: o, y :: o', hl, h, j, hj, hj', hn, he => by
    have hs : ∀ i : Nat, (h : i < o.length) → (h' : i < o'.length) → o[i] = true → o'[i] = true := fun i h1 h2 e => by have := h (i + 1) (by simp; omega) (by simp; omega) (by simpa using e); simpa using this
    have h0 := h 0 (by simp) (by simp)
    simp only [List.count_cons, List.getElem_cons_zero] at h0 ⊢
    cases j with
    | zero =>
      have ih := countb_le o o' (by simpa using hl) hs
      simp only [List.getElem_cons_zero] at hn he
      simp [hn, he]; omega
    | succ j =>
      have ih := countb_lt o o' (by simpa using hl) hs j (by simpa using hj) (by simpa using hj') (by simpa using hn) (by simpa using he)
      cases x <;> cases y <;> simp at h0 ⊢ <;> omega
theorem rdOf_eq (o : List Bool) (i : Nat) (h : i < o.length) : rdOf false o (i : Int) = o[i] := by
  unfold rdOf; simp [List.getD, h]
/-- Heights so far: of the known nodes those of h. -/
structure Hv (n : Int) (h : Int → Int) (x : List Int) (s : List Bool) : Prop where
  lx : (x.length : Int) = n
  ls : (s.length : Int) = n
  s0 : rdOf false s 0 = true
  val : ∀ v, 0 ≤ v → v < n → rdOf false s v = true → rd x v = h v - h 0
  bd : ∀ v, 0 ≤ v → v < n → -(100000 * (n - 1 - (s.count false : Int))) ≤ rd x v ∧ rd x v ≤ 100000 * (n - 1 - (s.count false : Int))
structure Ok (n : Int) (h : Int → Int) (r : Run) : Prop where
  a0 : 0 ≤ r.f0
  a1 : r.f0 < n
  b0 : 0 ≤ r.f1
  b1 : r.f1 < n
  lo : -100000 ≤ r.f2
  hi : r.f2 ≤ 100000
  p : h r.f1 - h r.f0 = r.f2
structure Hs (n : Int) (h : Int → Int) (rs : List Run) (s : List Bool) (x' : List Int) (s' : List Bool) : Prop where
  hv : Hv n h x' s'
  grow : ∀ v, 0 ≤ v → v < n → rdOf false s v = true → rdOf false s' v = true
  cl : ∀ r ∈ rs, rdOf false s r.f0 = true ∨ rdOf false s r.f1 = true → rdOf false s' r.f0 = true ∧ rdOf false s' r.f1 = true
theorem hset {n : Int} (hn : n ≤ 6) {h : Int → Int} {x : List Int} {s : List Bool} (H : Hv n h x s) {a b y : Int} (hb : 0 ≤ b ∧ b < n) (hk : rdOf false s b = false) (hy : y = h b - h 0) (ha : rd x a - 100000 ≤ y ∧ y ≤ rd x a + 100000) (ha0 : 0 ≤ a ∧ a < n) : Hv n h (x.set b.toNat y) (s.set b.toNat true) := by
  have lx := H.lx; have ls := H.ls
  have hc := count_rdOf s b hb.1 (by omega) hk
  have sx := fun v v0 (v1 : v < n) => rd_set x b v y hb.1 v0 (show v < (x.length : Int) by omega)
  have ss := fun v v0 (v1 : v < n) => rdOf_set s b v true hb.1 v0 (show v < (s.length : Int) by omega)
  refine ⟨by rw [List.length_set]; exact lx, by rw [List.length_set]; exact ls, ?_, fun v v0 v1 e => ?_, fun v v0 v1 => ?_⟩
  · rw [ss 0 (by omega) (by omega)]; split; rfl; exact H.s0
  · rw [ss v v0 v1] at e
    rw [sx v v0 v1]
    split
    · next q => rw [q]; exact hy
    · next q => rw [if_neg q] at e; exact H.val v v0 v1 e
  · have hbd := H.bd a ha0.1 ha0.2
    have hbv := H.bd v v0 v1
    rw [sx v v0 v1]
    split <;> omega
theorem hl1 {n : Int} (hn : n ≤ 6) {h : Int → Int} {l : List Run} {t : List Int} {X I : Int} (suf : List Run) : ∀ (pre : List Run) (x : List Int) (s : List Bool) (k : Nat), pre.length + suf.length ≤ 100 → (∀ r ∈ suf, Ok n h r) → Hv n h x s →
    ∃ x' s', impl_TreeHeights.l1 (k + 2 * suf.length + 1) l t x s X I (pre ++ suf) ((pre ++ suf).length : Int) (pre.length : Int) = impl_TreeHeights.l0 k l t x' s' X (wrap64 (I + 1)) ∧ Hs n h suf s x' s' := by
  induction suf with
  | nil =>
    intro pre x s k _ _ H
    refine ⟨x, s, ?_, H, fun _ _ _ e => e, by simp⟩
    rw [List.length_nil, Nat.mul_zero, Nat.add_zero, impl_TreeHeights.l1, if_neg (by simp)]
  | cons y suf ih =>
    intro pre x s k hl hr H
    simp only [List.length_cons] at hl
    have hy := hr y (by simp)
    have a0 := hy.a0; have a1 := hy.a1; have b0 := hy.b0; have b1 := hy.b1; have lo := hy.lo; have hi := hy.hi; have hp := hy.p
    have lx := H.lx; have ls := H.ls
    have ihn := fun x s H => ih (pre ++ [y]) x s k (by simp; omega) (fun r hm => hr r (by simp [hm])) H
    have fin : ∀ (x1 : List Int) (s1 : List Bool), Hv n h x1 s1 → (∀ v, 0 ≤ v → v < n → rdOf false s v = true → rdOf false s1 v = true) → (rdOf false s y.f0 = true ∨ rdOf false s y.f1 = true → rdOf false s1 y.f0 = true ∧ rdOf false s1 y.f1 = true) →
        impl_TreeHeights.l1 (k + 2 * (y :: suf).length + 1) l t x s X I (pre ++ y :: suf) ((pre ++ y :: suf).length : Int) (pre.length : Int) = impl_TreeHeights.l1 (k + 2 * suf.length + 1) l t x1 s1 X I ((pre ++ [y]) ++ suf) (((pre ++ [y]) ++ suf).length : Int) ((pre ++ [y]).length : Int) →
        ∃ x' s', impl_TreeHeights.l1 (k + 2 * (y :: suf).length + 1) l t x s X I (pre ++ y :: suf) ((pre ++ y :: suf).length : Int) (pre.length : Int) = impl_TreeHeights.l0 k l t x' s' X (wrap64 (I + 1)) ∧ Hs n h (y :: suf) s x' s' := by
      intro x1 s1 H1 hg hc e
      obtain ⟨x', s', e2, hs⟩ := ihn x1 s1 H1
      refine ⟨x', s', e.trans e2, hs.hv, fun v v0 v1 q => hs.grow v v0 v1 (hg v v0 v1 q), fun r hm q => ?_⟩
      rcases List.mem_cons.1 hm with z | z
      · rw [z] at q ⊢
        have := hc q
        exact ⟨hs.grow _ a0 a1 this.1, hs.grow _ b0 b1 this.2⟩
      · have hz := hr r hm
        exact hs.cl r z (q.imp (hg _ hz.a0 hz.a1) (hg _ hz.b0 hz.b1))
    have hbd0 := H.bd y.f0 a0 a1
    have hbd1 := H.bd y.f1 b0 b1
    have ss1 := fun v v0 (v1 : v < n) => rdOf_set s y.f1 v true b0 v0 (show v < (s.length : Int) by omega)
    have ss0 := fun v v0 (v1 : v < n) => rdOf_set s y.f0 v true a0 v0 (show v < (s.length : Int) by omega)
    have ef : k + 2 * (y :: suf).length + 1 = (k + 2 * suf.length + 1) + 1 + 1 := by rw [List.length_cons]; omega
    have en := next_midR pre y (by omega)
    have ea := app_midR pre suf y
    by_cases c0 : rdOf false s y.f0 = true
    · by_cases c1 : rdOf false s y.f1 = true
      · refine fin x s H (fun _ _ _ e => e) (fun _ => ⟨c0, c1⟩) ?_
        rw [ef, impl_TreeHeights.l1, if_pos (len_midR _ _ _), if_pos (by omega), if_pos (len_midR _ _ _), rd_midR, if_pos a0, if_pos (by omega), if_pos c0, if_pos b0, if_pos (by omega), c1, impl_TreeHeights.j2, if_neg (by simp), if_pos b0, if_pos (by omega), if_pos c1, if_pos a0, if_pos (by omega), if_pos c0, en, ← ea]
      · have c1' : rdOf false s y.f1 = false := Bool.eq_false_iff.2 c1
        have v0 := H.val y.f0 a0 a1 c0
        have ew : wrap64 (rd x y.f0 + y.f2) = rd x y.f0 + y.f2 := nw64 (by omega) (by omega)
        refine fin (x.set y.f1.toNat (rd x y.f0 + y.f2)) (s.set y.f1.toNat true) (hset hn H (a := y.f0) ⟨b0, b1⟩ c1' (by omega) (by omega) ⟨a0, a1⟩) (fun v v0 v1 e => by rw [ss1 v v0 v1]; split; rfl; exact e) (fun _ => ⟨by rw [ss1 _ a0 a1]; split; rfl; exact c0, by rw [ss1 _ b0 b1, if_pos rfl]⟩) ?_
        rw [ef, impl_TreeHeights.l1, if_pos (len_midR _ _ _), if_pos (by omega), if_pos (len_midR _ _ _), rd_midR, if_pos a0, if_pos (by omega), if_pos c0, if_pos b0, if_pos (by omega), c1', impl_TreeHeights.j2, if_pos (by simp), if_pos a0, if_pos (by omega), if_pos b0, if_pos (by omega), if_pos (by omega), ew, en, ← ea]
    · have c0' : rdOf false s y.f0 = false := Bool.eq_false_iff.2 c0
      by_cases c1 : rdOf false s y.f1 = true
      · have v1 := H.val y.f1 b0 b1 c1
        have ew : wrap64 (rd x y.f1 - y.f2) = rd x y.f1 - y.f2 := nw64 (by omega) (by omega)
        refine fin (x.set y.f0.toNat (rd x y.f1 - y.f2)) (s.set y.f0.toNat true) (hset hn H (a := y.f1) ⟨a0, a1⟩ c0' (by omega) (by omega) ⟨b0, b1⟩) (fun v v0 v1 e => by rw [ss0 v v0 v1]; split; rfl; exact e) (fun _ => ⟨by rw [ss0 _ a0 a1, if_pos rfl], by rw [ss0 _ b0 b1]; split; rfl; exact c1⟩) ?_
        rw [ef, impl_TreeHeights.l1, if_pos (len_midR _ _ _), if_pos (by omega), if_pos (len_midR _ _ _), rd_midR, if_pos a0, if_pos (by omega), if_neg c0, impl_TreeHeights.j2, if_neg (by simp), if_pos b0, if_pos (by omega), if_pos c1, if_pos a0, if_pos (by omega), if_neg c0, if_pos (by omega), if_pos (by omega), ew, en, ← ea]
      · refine fin x s H (fun _ _ _ e => e) (fun q => by rcases q with q | q; exact absurd q c0; exact absurd q c1) ?_
        rw [ef, impl_TreeHeights.l1, if_pos (len_midR _ _ _), if_pos (by omega), if_pos (len_midR _ _ _), rd_midR, if_pos a0, if_pos (by omega), if_neg c0, impl_TreeHeights.j2, if_neg (by simp), if_pos b0, if_pos (by omega), if_neg c1, en, ← ea]
theorem hround {n : Int} {h : Int → Int} {p : List Run} (hv : VL n p) (hw : ∀ v, 0 ≤ v → v < n → Lk p 0 v) {s s' : List Bool} {x' : List Int} (hls : (s.length : Int) = n) (hs0 : rdOf false s 0 = true) (H : Hs n h p s x' s') :
    (∀ v, 0 ≤ v → v < n → rdOf false s' v = true) ∨ s'.count false < s.count false := by
  have ls' := H.hv.ls
  by_cases q : ∀ v, 0 ≤ v → v < n → rdOf false s' v = true → rdOf false s v = true
  · left
    intro v v0 v1
    have hc : ∀ r ∈ p, (rdOf false s r.f0 = true) = (rdOf false s r.f1 = true) := fun r hr => by
      have hb := hv r hr
      exact propext ⟨fun e => q _ hb.2.2.1 hb.2.2.2 (H.cl r hr (.inl e)).2, fun e => q _ hb.1 hb.2.1 (H.cl r hr (.inr e)).1⟩
    exact H.grow v v0 v1 (((hw v v0 v1).const (fun u => rdOf false s u = true) hc).mp hs0)
  · right
    have : ∃ v, 0 ≤ v ∧ v < n ∧ rdOf false s' v = true ∧ rdOf false s v ≠ true := by
      refine Classical.byContradiction fun w => q fun v h0 h1 e => Classical.byContradiction fun e' => w ⟨v, h0, h1, e, e'⟩
    obtain ⟨v, v0, v1, e, e'⟩ := this
    obtain ⟨j, rfl⟩ : ∃ j : Nat, v = j := ⟨v.toNat, by omega⟩
    refine countb_lt s s' (by omega) (fun i h1 h2 ei => ?_) j (by omega) (by omega) ?_ ?_
    · have := H.grow i (by omega) (by omega) (by rw [rdOf_eq s i h1]; exact ei)
      rwa [rdOf_eq s' i h2] at this
    · rw [rdOf_eq s j (by omega)] at e'; exact Bool.eq_false_iff.2 e'
    · rwa [rdOf_eq s' j (by omega)] at e
theorem hl0' {n : Int} (hn : 1 ≤ n ∧ n ≤ 6) {h : Int → Int} {l : List Run} {t : List Int} (ht : t.length ≤ 12) (hx : ∀ k ∈ t, 0 ≤ k ∧ k < (l.length : Int)) (hok : ∀ r ∈ pk l t, Ok n h r) (hw : ∀ v, 0 ≤ v → v < n → Lk (pk l t) 0 v) {X : Nat} (hX : X ≤ 12) (c : Nat) : ∀ (i : Nat) (x : List Int) (s : List Bool) (K : Nat), X - i = c → i ≤ X → 60 + 26 * c < K → Hv n h x s →
    ∃ x' s', impl_TreeHeights.l0 K l t x s (X : Int) (i : Int) = some (x', true) ∧ Hv n h x' s' ∧ ((∀ v, 0 ≤ v → v < n → rdOf false s' v = true) ∨ s'.count false + c ≤ s.count false) := by
  have hlp : (pk l t).length = t.length := by simp [pk]
  induction c with
  | zero =>
    intro i x s K hc hi hK H
    obtain ⟨K, rfl⟩ : ∃ m, K = m + 1 := ⟨K - 1, by omega⟩
    refine ⟨x, s, ?_, H, .inr (by omega)⟩
    rw [impl_TreeHeights.l0, if_neg (by omega)]
  | succ c ih =>
    intro i x s K hc hi hK H
    obtain ⟨K, rfl⟩ : ∃ m, K = m + 2 * (pk l t).length + 1 + 1 := ⟨K - 2 * (pk l t).length - 2, by omega⟩
    obtain ⟨x1, s1, e1, H1⟩ := hl1 hn.2 (h := h) (l := l) (t := t) (X := (X : Int)) (I := (i : Int)) (pk l t) [] x s K (by rw [hlp]; simp; omega) hok H
    simp only [List.nil_append, List.length_nil] at e1
    rw [show ((0 : Nat) : Int) = 0 from rfl] at e1
    have hi2 : wrap64 ((i : Int) + 1) = ((i + 1 : Nat) : Int) := by rw [nw64 (by omega) (by omega)]; omega
    have hK2 : 60 + 26 * c < K := by omega
    obtain ⟨x2, s2, e2, H2, hp2⟩ := ih (i + 1) x1 s1 K (by omega) (by omega) hK2 H1.hv
    refine ⟨x2, s2, ?_, H2, ?_⟩
    · rw [impl_TreeHeights.l0, if_pos (by omega), pick_eq _ (by omega) (by omega) hx]
      simp only [Option.bind_some]
      rw [e1, hi2]
      exact e2
    · rcases hround (fun r hr => ⟨(hok r hr).a0, (hok r hr).a1, (hok r hr).b0, (hok r hr).b1⟩) hw H.ls H.s0 H1 with q | q
      · rcases hp2 with z | z
        · exact .inl z
        · -- all were known already
          left
          have hz : s1.count false = 0 := by
            rw [List.count_eq_zero]
            intro hm
            obtain ⟨j, hj, e⟩ := List.getElem_of_mem hm
            have := q j (by omega) (by have := H1.hv.ls; omega)
            rw [rdOf_eq s1 j hj, e] at this
            cases this
          have hz2 : s2.count false = 0 := by omega
          intro v v0 v1
          obtain ⟨j, rfl⟩ : ∃ j : Nat, v = j := ⟨v.toNat, by omega⟩
          have hj : j < s2.length := by have := H2.ls; omega
          rw [rdOf_eq s2 j hj]
          rw [List.count_eq_zero] at hz2
          cases hh : s2[j] with
          | true => rfl
          | false => exact absurd (hh ▸ List.getElem_mem hj) hz2
      · rcases hp2 with z | z
        · exact .inl z
        · exact .inr (by omega)
theorem TreeIs_l0 {n : Int} {l : List Run} {t : List Int} (hw : wholeB n (pk l t) = true) (ht : t.length ≤ 12) (hx : ∀ x ∈ t, 0 ≤ x ∧ x < (l.length : Int)) (suf : List Int) : ∀ (pre : List Int) (y : Int) (k : Nat), pre ++ suf = t → suf.length + 70 < k → (∀ x ∈ suf, y < x) → suf.Pairwise (· < ·) →
    impl_TreeIs.l0 k n l t y (pre ++ suf) ((pre ++ suf).length : Int) (pre.length : Int) = some true := by
  induction suf with
  | nil =>
    intro pre y k he hk _ _
    obtain ⟨k, rfl⟩ : ∃ m, k = m + 1 := ⟨k - 1, by omega⟩
    rw [impl_TreeIs.l0, if_neg (by simp), pick_eq k (by omega) (by omega) hx]
    simp only [Option.bind_some]
    rw [NetWhole_eq k _ _ (by omega), hw]
    rfl
  | cons z suf ih =>
    intro pre y k he hk hy hp
    simp only [List.length_cons] at hk
    obtain ⟨k, rfl⟩ : ∃ m, k = m + 1 := ⟨k - 1, by omega⟩
    have hz := hx z (by rw [← he]; simp)
    have hyz := hy z (by simp)
    have hl : pre.length + (suf.length + 1) = t.length := by rw [← he]; simp
    rw [impl_TreeIs.l0, if_pos (len_midI _ _ _), if_pos (by omega), if_pos (len_midI _ _ _), rd_midI, if_neg (by omega), if_neg (by omega), next_midI pre z (by omega), app_midI pre suf z]
    rw [List.pairwise_cons] at hp
    exact ih (pre ++ [z]) z k (by rw [← he]; simp) (by omega) (fun x hm => hp.1 x hm) hp.2
theorem ft_whole {n : Int} {l : List Run} (hw : wholeB n l = true) : wholeB n (pk l (ftree n l l.length)) = true := by
  have hv := (wholeB_iff.1 hw).1
  have hn := nvB_n hv
  refine wholeB_iff.2 ⟨pk_valid hv (by have := ft_len n l l.length; omega) (fun x hm => ft_lt n l l.length x hm), fun v v0 v1 => ?_⟩
  refine ft_lk (by omega) (nvB_VL hv) l.length (Nat.le_refl _) _ _ ?_
  rw [List.take_length]
  exact (wholeB_iff.1 hw).2 v v0 v1
theorem ft_size {n : Int} {l : List Run} (hw : wholeB n l = true) : ((ftree n l l.length).length : Int) = n - 1 := by
  have hv := (wholeB_iff.1 hw).1
  have hn := nvB_n hv
  have h1 := ft_parts (by omega) (nvB_VL hv) l.length (Nat.le_refl _)
  have h2 := parts_whole (by omega) (ft_VL (m := l.length) (nvB_VL hv) (Nat.le_refl _)) (wholeB_iff.1 (ft_whole hw)).2
  omega
theorem TreeIs_eq (k : Nat) {n : Int} {l : List Run} (hk : 120 < k) (hw : wholeB n l = true) : impl_TreeIs.f k n l (ftree n l l.length) = some true := by
  have hv := (wholeB_iff.1 hw).1
  have hn := nvB_n hv
  have hs := ft_size hw
  have hlt := ft_lt n l l.length
  have htl := ft_len n l l.length
  obtain ⟨k, rfl⟩ : ∃ m, k = m + 1 := ⟨k - 1, by omega⟩
  unfold impl_TreeIs.f
  rw [impl_NetValid_eq (k + 1) n l (by omega), hv]
  simp only [Option.bind_some]
  rw [if_pos trivial, nw64 (x := n - 1) (by omega) (by omega), hs, impl_TreeIs.j0, if_neg (by simp)]
  have := TreeIs_l0 (ft_whole hw) (by omega) (fun x hm => hlt x hm) (ftree n l l.length) [] (-1) k (by simp) (by omega) (fun x hm => by have := hlt x hm; omega) (ft_asc n l l.length)
  simp only [List.nil_append, List.length_nil] at this
  rw [show ((0 : Nat) : Int) = 0 from rfl] at this
  rw [hs] at this
  rw [hs]
  exact this
/-- The program's heights of the first tree of a whole net fit the tree. -/
theorem TreeHeights_eq (k : Nat) {n : Int} {l : List Run} (hk : 1000 < k) (hw : wholeB n l = true) {h : Int → Int} (hp : pot h (pk l (ftree n l l.length))) :
    ∃ x, impl_TreeHeights.f k n l (ftree n l l.length) = some (x, true) ∧ (x.length : Int) = n ∧ hIn x ∧ ∀ v, 0 ≤ v → v < n → rd x v = h v - h 0 := by
  have hv := (wholeB_iff.1 hw).1
  have hn := nvB_n hv
  have hs := ft_size hw
  have hlt := ft_lt n l l.length
  have hVL := ft_VL (m := l.length) (nvB_VL hv) (Nat.le_refl _)
  have hsub := ft_sub (n := n) (l := l) (Nat.le_refl l.length)
  have hok : ∀ r ∈ pk l (ftree n l l.length), Ok n h r := fun r hr => by
    have := nvB_all hv (hsub r hr)
    exact ⟨this.1.1, this.1.2.1, this.1.2.2.1, this.1.2.2.2.1, this.2.1.1, this.2.1.2, hp r hr⟩
  have hl0 : (List.replicate n.toNat false).length = n.toNat := List.length_replicate
  have hr0 : ∀ v : Int, rdOf false (List.replicate n.toNat false) v = false := fun v => by unfold rdOf; rw [List.getD_eq_getElem?_getD, List.getElem?_replicate]; split <;> rfl
  have hc := count_rdOf (List.replicate n.toNat false) 0 (by omega) (by omega) (hr0 0)
  rw [List.count_replicate_self] at hc
  have ss := fun v v0 (v1 : v < n) => rdOf_set (List.replicate n.toNat false) 0 v true (by omega) v0 (show v < ((List.replicate n.toNat false).length : Int) by omega)
  have H : Hv n h (List.replicate n.toNat 0) ((List.replicate n.toNat false).set (0 : Int).toNat true) := by
    have hz : ∀ v : Int, rd (List.replicate n.toNat 0) v = 0 := fun v => by unfold rd; rw [List.getD_eq_getElem?_getD, List.getElem?_replicate]; split <;> rfl
    refine ⟨by rw [List.length_replicate]; omega, by rw [List.length_set, hl0]; omega, ?_, fun v v0 v1 e => ?_, fun v v0 v1 => ?_⟩
    · rw [ss 0 (by omega) (by omega), if_pos rfl]
    · rw [ss v v0 v1] at e
      split at e
      · next q => rw [q, hz]; omega
      · rw [hr0] at e; cases e
    · rw [hz]; omega
  obtain ⟨x, s, e, Hx, hq⟩ := hl0' (n := n) ⟨by omega, hn.2.1⟩ (h := h) (l := l) (t := ftree n l l.length) (by omega) (fun x hm => hlt x hm) hok (wholeB_iff.1 (ft_whole hw)).2 (X := (ftree n l l.length).length) (by omega) (ftree n l l.length).length 0 _ _ k (by omega) (by omega) (by omega) H
  have hall : ∀ v, 0 ≤ v → v < n → rdOf false s v = true := by
    rcases hq with q | q
    · exact q
    · intro v v0 v1
      have hz : s.count false = 0 := by omega
      obtain ⟨j, rfl⟩ : ∃ j : Nat, v = j := ⟨v.toNat, by omega⟩
      have hj : j < s.length := by have := Hx.ls; omega
      rw [rdOf_eq s j hj]
      rw [List.count_eq_zero] at hz
      cases hh : s[j] with
      | true => rfl
      | false => exact absurd (hh ▸ List.getElem_mem hj) hz
  refine ⟨x, ?_, Hx.lx, fun y hy => ?_, fun v v0 v1 => Hx.val v v0 v1 (hall v v0 v1)⟩
  · rw [show ((0 : Nat) : Int) = 0 from rfl] at e
    unfold impl_TreeHeights.f
    rw [TreeIs_eq k (by omega) hw]
    simp only [Option.bind_some]
    rw [if_pos trivial, if_pos (by omega), if_pos (by omega), if_pos (by omega), if_pos (by rw [hl0]; omega)]
    exact e
  · obtain ⟨j, hj, rfl⟩ := List.getElem_of_mem hy
    have := Hx.bd j (by omega) (by have := Hx.lx; omega)
    rw [rd_eq x j hj] at this
    omega
end Go.Proofs.Ytmcfhmflncghiaa.Pure
namespace Go.Proofs.Ytmcfhmflncghiaa.Pure
open Go.RowKit Go.Proofs.Ytmcfhmflncghiaa.Q Go.Proofs.YtmcfhmflncghiaaW.PrintWords Go.Proofs.YtmcfhmflncghiaaW.PrintLast Go.Proofs.YtmcfhmflncghiaaW.PrintMore
def tail3 : Run := ⟨3, 1, 7, 2⟩
def net3 (out : List Int) (i : Nat) : List Run := tail3 :: ring 3 out i
def hN (out : List Int) (v : Int) : Int := if v = 3 then hgt out 1 - 7 else hgt out v
theorem net3_pot {out : List Int} (hl : out.length = 3) (hs : out.sum = 0) : pot (hN out) (net3 out 3) := by
  intro r hr
  rcases List.mem_cons.1 hr with q | q
  · rw [q]
    show hN out 1 - hN out 3 = 7
    unfold hN
    rw [if_neg (by omega), if_pos rfl]; omega
  · have h := ring_pot hl hs r q
    obtain ⟨i, hi, rfl⟩ := List.mem_map.1 q
    have hi := List.mem_range.1 hi
    have e1 : (rgR 3 out i).f1 ≠ 3 := by
      show Int.tmod ((i : Int) + 1) ((3 : Nat) : Int) ≠ 3
      rw [rg_next hi]; split <;> omega
    have e0 : (rgR 3 out i).f0 ≠ 3 := by show (i : Int) ≠ 3; omega
    unfold hN
    rw [if_neg e1, if_neg e0]; exact h
theorem net3_whole {out : List Int} (hv : nvB 4 (net3 out 3) = true) : wholeB 4 (net3 out 3) = true := by
  refine wholeB_iff.2 ⟨hv, fun v v0 v1 => ?_⟩
  have hsub : ∀ r ∈ ring 3 out 3, r ∈ net3 out 3 := fun r hr => List.mem_cons_of_mem _ hr
  by_cases c : v = 3
  · rw [c]
    have h1 := (ring_lk (m := 3) (out := out) 1 (by omega)).mono hsub
    exact h1.trans (Lk.run (l := net3 out 3) (r := tail3) (by simp [net3])).symm
  · obtain ⟨i, rfl⟩ : ∃ i : Nat, v = i := ⟨v.toNat, by omega⟩
    exact (ring_lk (m := 3) (out := out) i (by omega)).mono hsub
theorem sum3 {out : List Int} (hl : out.length = 3) : out.sum = rd out 0 + rd out 1 + rd out 2 := by
  match out, hl with
  | [a, b, c], _ => simp [rd]; omega
theorem net3_l0 {out : List Int} (hl : out.length = 3) (hs : out.sum = 0) (hb : ∀ x ∈ out, -10200000 ≤ x ∧ x ≤ 10200000) (c : Nat) : ∀ (i k : Nat), 3 - i = c → i ≤ 3 → c + 1200 < k → laws_FnShareNet.l0 k out (net3 out i) (i : Int) = some true := by
  induction c with
  | zero =>
    intro i k hc hi hk
    obtain ⟨k, rfl⟩ : ∃ j, k = j + 1 := ⟨k - 1, by omega⟩
    obtain rfl : i = 3 := by omega
    rw [laws_FnShareNet.l0, if_neg (by omega), impl_NetValid_eq k _ _ (by omega)]
    simp only [Option.bind_some]
    by_cases hv : nvB 4 (net3 out 3) = true
    · have hw := net3_whole hv
      have hp := net3_pot hl hs
      obtain ⟨x, e1, e2, e3, e4⟩ := TreeHeights_eq k (by omega) hw (pot_sub hp)
      have hpx : pot (rd x) (net3 out 3) := fun r hr => by
        have := hp r hr
        have hV := nvB_VL hv r hr
        rw [e4 r.f1 hV.2.2.1 hV.2.2.2, e4 r.f0 hV.1 hV.2.1]; omega
      have h13 : rd x 1 - rd x 3 = 7 := hpx tail3 (by simp [net3])
      rw [if_pos hv, TreeFirst_eq k (by omega) hw]
      simp only [Option.bind_some]
      rw [e1]
      simp only [Option.bind_some]
      rw [if_pos trivial, if_pos trivial, LoopCloses_pot k (by omega) hw hp]
      simp only [Option.bind_some]
      rw [if_pos trivial, (NetFits_true k 4 (net3 out 3) x (by omega) hv e2 e3).1.2 hpx]
      simp only [Option.bind_some]
      rw [if_pos trivial, if_pos (by omega), if_pos (by omega), h13, nw64 (by omega) (by omega)]
      rfl
    · have b0 := hb _ (List.getElem_mem (l := out) (show 0 < out.length by omega))
      have b1 := hb _ (List.getElem_mem (l := out) (show 1 < out.length by omega))
      have b2 := hb _ (List.getElem_mem (l := out) (show 2 < out.length by omega))
      have r0 : rd out 0 = out[0] := rd_eq out 0 (by omega)
      have r1 : rd out 1 = out[1] := rd_eq out 1 (by omega)
      have r2 : rd out 2 = out[2] := rd_eq out 2 (by omega)
      have h3 := sum3 hl
      rw [if_neg hv, if_pos (by omega), if_pos (by omega), if_pos (by omega), nw64 (x := rd out 0 + rd out 1) (by omega) (by omega), nw64 (x := rd out 0 + rd out 1 + rd out 2) (by omega) (by omega), show rd out 0 + rd out 1 + rd out 2 = 0 by omega]
      rfl
  | succ c ih =>
    intro i k hc hi hk
    obtain ⟨k, rfl⟩ : ∃ j, k = j + 1 := ⟨k - 1, by omega⟩
    have e1 : wrap64 ((i : Int) + 1) = (i : Int) + 1 := nw64 (by omega) (by omega)
    have hnx := ih (i + 1) k (by omega) (by omega) (by omega)
    have er : net3 out (i + 1) = net3 out i ++ [rgR 3 out i] := by unfold net3 ring; rw [List.range_succ, List.map_append]; rfl
    rw [er] at hnx
    rw [laws_FnShareNet.l0, if_pos (by omega), if_pos (by omega), if_pos (by omega), if_pos (by simp [net3, ring]; omega), e1]
    exact hnx
theorem FnShareNet : laws_FnShareNet.Pure := by
  intro l0 _ _ hl0
  refine ⟨2003, ?_⟩
  unfold laws_FnShareNet.f
  split
  · rfl
  · obtain ⟨l, h, hd, hl6, hh6⟩ := DrawRises_ok 2003 (by omega) hl0
    rw [hd, Option.bind_some]
    dsimp only
    rw [impl_ShareRises_eq 2003 l h (by omega) (by omega), Option.bind_some, spec_ShareRises_eq 2003 l h (by omega) (by omega), Option.bind_some, if_neg (by simp)]
    have hlen := risR_len l h
    rw [sameInts_self 2003 _ (by omega) (by omega), Option.bind_some, if_pos rfl, laws_FnShareNet.j0]
    by_cases c : LV l ∧ h.length = l.length ∧ RV h
    · have hb : (risR l h).2 = true := by unfold risR; rw [if_pos c]
      obtain ⟨s1, s2, s3⟩ := ris_sum c
      rw [hb, if_neg (by simp)]
      generalize (risR l h).1 = out at *
      by_cases c3 : (out.length : Int) = 3
      · rw [if_pos c3]
        exact net3_l0 (by omega) s2 s3 3 0 2002 (by omega) (by omega) (by omega)
      · rw [if_neg c3, sumOf_eq 2002 10200000 _ (by omega) s3 (by omega) (by omega), Option.bind_some, s2]
        rfl
    · have hb : risR l h = ([], false) := by unfold risR; rw [if_neg c]
      rw [hb, if_pos (by simp), if_pos (by simp), sameInts_self 2002 _ (by simp) (by simp), Option.bind_some]
end Go.Proofs.Ytmcfhmflncghiaa.Pure
