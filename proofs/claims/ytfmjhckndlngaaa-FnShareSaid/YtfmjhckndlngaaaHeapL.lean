/- The program's whole shares are the reference's: the plain law of the heap. -/
import Derived.Test.YtfmjhckndlngaaaHeapO
import Derived.Test.YtfmjhckndlngaaaSpecShare
import Derived.Test.YtfmjhckndlngaaaQ2
namespace Go.Proofs.Ytfmjhckndlngaaa.Pure
open Go.RowKit Go.Proofs.Ytfmjhckndlngaaa.Q Go.Proofs.YtfmjhckndlngaaaW.PrintWords Go.Proofs.YtfmjhckndlngaaaW.PrintLast Go.Proofs.YtfmjhckndlngaaaW.PrintMore Go.Proofs.Ytfmjhckndlngaaa.HeapW
set_option linter.unusedVariables false
theorem nextI_is {r : List Int} {j : Nat} (hmax : ∀ k : Nat, k < r.length → rd r (k : Int) ≤ rd r (j : Int)) (hfst : ∀ k : Nat, k < j → rd r (k : Int) < rd r (j : Int)) (suf : List Int) :
    ∀ (pre : List Int) (b : Nat), r = pre ++ suf → (j < pre.length → b = j) → (pre.length ≤ j → j < r.length ∧ (b = j ∨ rd r (b : Int) < rd r (j : Int))) → nextI r suf pre.length b = j := by
  induction suf with
  | nil =>
    intro pre b hr h1 h2
    have : r.length = pre.length := by rw [hr]; simp
    simp only [nextI]
    by_cases c : j < pre.length
    · exact h1 c
    · have := h2 (by omega); omega
  | cons y suf ih =>
    intro pre b hr h1 h2
    have hlen : r.length = pre.length + suf.length + 1 := by rw [hr]; simp; omega
    have hy : rd r (pre.length : Int) = y := by rw [hr]; exact rd_mid pre suf y
    have hr' : r = (pre ++ [y]) ++ suf := by rw [hr]; simp
    have hl' : (pre ++ [y]).length = pre.length + 1 := by simp
    simp only [nextI]
    have hm := hmax pre.length (by omega)
    rw [← hl']
    by_cases c : y > rd r (b : Int)
    · rw [if_pos c]
      refine ih (pre ++ [y]) pre.length hr' (fun q => ?_) (fun q => ?_)
      · rw [hl'] at q
        by_cases e : j = pre.length
        · exact e.symm
        · have := h1 (by omega); subst this; omega
      · rw [hl'] at q
        refine ⟨(h2 (by omega)).1, Or.inr ?_⟩
        exact hfst _ (by omega)
    · rw [if_neg c]
      refine ih (pre ++ [y]) b hr' (fun q => ?_) (fun q => ?_)
      · rw [hl'] at q
        by_cases e : j = pre.length
        · rcases (h2 (by omega)).2 with h | h
          · exact h
          · rw [e, hy] at h; omega
        · exact h1 (by omega)
      · rw [hl'] at q
        exact h2 (by omega)
theorem nextR_is {r : List Int} {j : Nat} (hj : j < r.length) (hmax : ∀ k : Nat, k < r.length → rd r (k : Int) ≤ rd r (j : Int)) (hfst : ∀ k : Nat, k < j → rd r (k : Int) < rd r (j : Int)) : nextR r = j := by
  unfold nextR
  refine nextI_is hmax hfst r [] 0 rfl (fun q => by simp at q) (fun _ => ⟨hj, ?_⟩)
  by_cases c : 0 = j
  · exact Or.inl c
  · exact Or.inr (hfst 0 (by omega))
theorem top_next {R : Nat → Int} {a : Nat → Rem} {n : Nat} {r : List Int} {m i0 : Nat} (h : GoodH R a n r m) (hp : Hp a 0 m) (hm : m ≤ n) (h0 : 0 < m) (hr : r.length = n) (hi0 : i0 < n) (e0 : a 0 = rem0 R i0) (hR : ∀ i, i < n → 0 ≤ R i) : nextR r = i0 := by
  have r0 : rd r (i0 : Int) = R i0 := h.on 0 i0 h0 e0
  have key : ∀ i : Nat, i < n → (rd r (i : Int) = -1) ∨ (rd r (i : Int) = R i ∧ ¬ (R i0 < R i ∨ (R i = R i0 ∧ i < i0))) := by
    intro i hi
    obtain ⟨k, hk, e⟩ := h.sur i hi
    by_cases c : k < m
    · right
      refine ⟨h.on k i c e, ?_⟩
      have := hp_top hp k c
      rw [e, e0, nless_iff] at this
      simp only [rem0] at this
      omega
    · exact Or.inl (h.off k i (by omega) hk e)
  have hR0 := hR i0 hi0
  refine nextR_is (by omega) (fun k hk => ?_) (fun k hk => ?_)
  · rcases key k (by omega) with q | q <;> omega
  · rcases key k (by omega) with q | q <;> omega
/-- The remainders still there, when p are taken. -/
def RS (R : Nat → Int) (n : Nat) (r : List Int) : Nat → List Int
  | 0 => r
  | p + 1 => (RS R n r p).set (AA R n (p + 1) (n - p - 1)).1.toNat (-1)
theorem RS_len (R : Nat → Int) (n : Nat) (r : List Int) (p : Nat) : (RS R n r p).length = r.length := by
  induction p with
  | zero => rfl
  | succ p ih => simp only [RS]; rw [List.length_set, ih]
theorem good_ini (R : Nat → Int) (n : Nat) (r : List Int) (hr : ∀ i : Nat, i < n → rd r (i : Int) = R i) : GoodH R (rem0 R) n r n :=
  ⟨fun k hk => ⟨k, hk, rfl⟩, fun j k _ _ e => rem0_inj e, fun i hi => ⟨i, hi, rfl⟩, fun k i hk e => by rw [← rem0_inj e]; exact hr k hk, fun k i h1 h2 _ => by omega⟩
theorem good_all (R : Nat → Int) (n : Nat) (r : List Int) (hl : r.length = n) (hr : ∀ i : Nat, i < n → rd r (i : Int) = R i) (hR : ∀ i, i < n → 0 ≤ R i) (p : Nat) : p ≤ n → GoodH R (AA R n p) n (RS R n r p) (n - p) ∧ Hp (AA R n p) 0 (n - p) ∧
    ∀ q, q < p → (AA R n (q + 1) (n - q - 1)).1.toNat < n ∧ (AA R n (q + 1) (n - q - 1)).1 = ((AA R n (q + 1) (n - q - 1)).1.toNat : Int) ∧ nextR (RS R n r q) = (AA R n (q + 1) (n - q - 1)).1.toNat := by
  induction p with
  | zero =>
    intro _
    have h := ini_ok (n / 2) (rem0 R) n (by omega) (fun j h1 h2 h3 => by omega)
    exact ⟨(good_ini R n r hr).perm (Nat.le_refl _) h.2, h.1, fun q hq => by omega⟩
  | succ p ih =>
    intro hp
    obtain ⟨hg, hh, hq⟩ := ih (by omega)
    obtain ⟨i0, hi0, e0⟩ := hg.ex 0 (by omega)
    have hlen : (RS R n r p).length = n := by rw [RS_len, hl]
    have hpop := hg.pop (by omega) (by omega) hlen hi0 e0
    have hnx := top_next hg hh (by omega) (by omega) hlen hi0 e0 hR
    have e2 : AA R n (p + 1) = topR (AA R n p) (n - p) := rfl
    have e3 : (AA R n (p + 1) (n - p - 1)).1.toNat = i0 := by rw [e2, hpop.2]; simp [rem0]
    refine ⟨?_, ?_, ?_⟩
    · have : RS R n r (p + 1) = (RS R n r p).set i0 (-1) := by simp only [RS]; rw [e3]
      rw [this, e2, show n - (p + 1) = n - p - 1 by omega]
      exact hpop.1
    · rw [e2, show n - (p + 1) = n - p - 1 by omega]
      exact top_heap (by omega) hh
    · intro q hq'
      by_cases c : q = p
      · subst c
        rw [e3]
        refine ⟨hi0, ?_, hnx⟩
        rw [e2, hpop.2]; simp [rem0]
      · exact hq q (by omega)
theorem SS_pick {n : Nat} {Q R : Nat → Int} {r : List Int} {ix : Nat → Nat} {B : Nat} (hB : ∀ y ∈ SS Q n ix 0, -(B : Int) ≤ y ∧ y ≤ B) (m : Nat) (hBm : B + m ≤ 4611686018427387904) (hix : ∀ p, p < m → nextR (RS R n r p) = ix p) (hixd : ∀ p, ix p = (AA R n (p + 1) (n - p - 1)).1.toNat) (p : Nat) :
    p ≤ m → (∀ y ∈ SS Q n ix p, -((B + p : Nat) : Int) ≤ y ∧ y ≤ (B + p : Nat)) ∧ pickN m (SS Q n ix 0) r = pickN (m - p) (SS Q n ix p) (RS R n r p) := by
  induction p with
  | zero => intro _; exact ⟨hB, rfl⟩
  | succ p ih =>
    intro hp
    obtain ⟨h1, h2⟩ := ih (by omega)
    have hb := rd_mem_bd (B := ((B + p : Nat) : Int)) (by omega) h1 (ix p : Int)
    have e : SS Q n ix (p + 1) = (SS Q n ix p).set (ix p) (rd (SS Q n ix p) (ix p : Int) + 1) := by
      rw [SS, sw64 (by omega) (by omega)]
    refine ⟨?_, ?_⟩
    · rw [e]
      exact set_bd (fun y hy => by have := h1 y hy; omega) (by omega)
    · rw [h2, show m - p = (m - (p + 1)) + 1 by omega, pickN, hix p (by omega), e, RS, ← hixd p]
theorem MS_eq {Q : Nat → Int} {a : Int} {B : Nat} (q : List Int) (ha : -1000000000000 ≤ a ∧ a ≤ 1000000000000) (hB : ∀ y ∈ q, -(B : Int) ≤ y ∧ y ≤ B) (hl : q.length * B ≤ 4611686018427387904) (hQ : ∀ i : Nat, i < q.length → Q i = rd q (i : Int)) (i : Nat) :
    i ≤ q.length → MS Q a i = a - (q.take i).sum := by
  induction i with
  | zero => intro _; simp [MS]
  | succ i ih =>
    intro hi
    have e : (q.take (i + 1)).sum = (q.take i).sum + rd q (i : Int) := by
      rw [List.take_add_one, List.getElem?_eq_getElem (show i < q.length by omega)]
      simp only [Option.toList_some, List.sum_append, List.sum_singleton]
      unfold rd
      rw [Int.toNat_natCast, List.getD_eq_getElem?_getD, List.getElem?_eq_getElem (show i < q.length by omega)]
      rfl
    have hb := sum_bd (B := B) (q.take (i + 1)) (fun x hx => hB x (List.mem_of_mem_take hx))
    have h3 : (q.take (i + 1)).length * B ≤ q.length * B := Nat.mul_le_mul_right _ (by simp; omega)
    rw [MS, ih (by omega), hQ i (by omega), e] at *
    rw [sw64 (by omega) (by omega)]
    omega
theorem rd_map (f : Int → Int) (l : List Int) (i : Nat) (hi : i < l.length) : rd (l.map f) (i : Int) = f (rd l (i : Int)) := by
  unfold rd
  rw [Int.toNat_natCast, List.getD_eq_getElem?_getD, List.getD_eq_getElem?_getD, List.getElem?_map, List.getElem?_eq_getElem hi]
  rfl
theorem rd_in {l : List Int} {i : Nat} (hi : i < l.length) : rd l (i : Int) ∈ l := by
  unfold rd
  rw [Int.toNat_natCast, List.getD_eq_getElem?_getD, List.getElem?_eq_getElem hi]
  exact List.getElem_mem hi
/-- All that the walk asks, at valid lengths and amount. -/
theorem share_facts {l : List Int} {a : Int} (h : AV l a) (Q R : Nat → Int) (hQ : Q = fun i : Nat => rd (fl l a) (i : Int)) (hR : R = fun i : Nat => rd (rs l a) (i : Int)) (mm : Nat) (hmm : mm = (a - (fl l a).sum).toNat) (ix : Nat → Nat) (hix : ix = fun p => (AA R l.length (p + 1) (l.length - p - 1)).1.toNat) :
    MS Q a l.length = (mm : Int) ∧ mm ≤ l.length ∧ (∀ p, p < mm → ix p < l.length ∧ (AA R l.length (p + 1) (l.length - p - 1)).1 = (ix p : Int)) ∧ SS Q l.length ix mm = pickN mm (fl l a) (rs l a) := by
  have hf : (fl l a).length = l.length := by simp [fl]
  have hrl : (rs l a).length = l.length := by simp [rs]
  have hmb := missing_bd h
  have h20 := h.1.2.2.1
  have hs := h.1.sum
  have hrr : ∀ i : Nat, i < l.length → rd (rs l a) (i : Int) = R i := fun i _ => by rw [hR]
  have hR0 : ∀ i, i < l.length → 0 ≤ R i := fun i hi => by
    rw [hR]
    show 0 ≤ rd (rs l a) (i : Int)
    unfold rs
    rw [rd_map _ _ _ hi]
    exact Int.emod_nonneg _ (by omega)
  have hall := (good_all R l.length (rs l a) hrl hrr hR0 mm (by omega)).2.2
  have h0 : SS Q l.length ix 0 = fl l a := by
    rw [SS, XS]
    apply List.ext_getElem
    · simp [hf]
    · intro i h1 h2
      rw [List.getElem_map, List.getElem_range, if_pos (by omega), hQ]
      show rd (fl l a) (i : Int) = _
      unfold rd
      rw [Int.toNat_natCast, List.getD_eq_getElem?_getD, List.getElem?_eq_getElem h2]
      rfl
  have hB := fl_bd h
  refine ⟨?_, by omega, fun p hp => ?_, ?_⟩
  · have := MS_eq (Q := Q) (a := a) (B := 100000000001) (fl l a) (by have := h.2; omega) hB (by rw [hf]; omega) (fun i _ => by rw [hQ]) l.length (by omega)
    rw [this, List.take_of_length_le (by omega)]
    omega
  · have := hall p hp
    rw [hix]
    exact ⟨this.1, this.2.1⟩
  · have := SS_pick (n := l.length) (Q := Q) (R := R) (r := rs l a) (ix := ix) (B := 100000000001) (by rw [h0]; exact hB) mm (by omega) (fun p hp => by rw [hix]; exact (hall p hp).2.2) (fun p => by rw [hix]) mm (Nat.le_refl _)
    rw [h0] at this
    rw [this.2, Nat.sub_self]
    rfl
theorem floorParts_eq (a b : Int) (hb : 0 < b) (ha : -4611686018427387904 ≤ a ∧ a ≤ 4611686018427387904) (hb' : b ≤ 4611686018427387904) : impl_floorParts.f a b = some (a / b, a % b) := by
  unfold impl_floorParts.f
  have hp := tparts a b hb
  have hd := ediv_bd hb ha
  have h2 := Int.emod_nonneg a (show b ≠ 0 by omega)
  have h3 := Int.emod_lt_of_pos a hb
  rw [if_neg (by omega)]
  by_cases h : Int.tmod a b < 0
  · obtain ⟨e1, e2⟩ := hp.1 h
    rw [if_pos h, sw64 (x := Int.tdiv a b) (by omega) (by omega), sw64 (by omega) (by omega), sw64 (by omega) (by omega), e1, e2]
  · obtain ⟨e1, e2⟩ := hp.2 h
    rw [if_neg h, sw64 (by omega) (by omega), e1, e2]
theorem share_parts {l : List Int} {a : Int} (h : AV l a) (i : Nat) (hi : i < l.length) : impl_floorParts.f (wrap64 (a * rd l (i : Int))) l.sum = some (rd (fl l a) (i : Int), rd (rs l a) (i : Int)) := by
  have hp := prod_bd h (rd_in hi)
  have hs := h.1.sum
  rw [sw64 (by omega) (by omega), floorParts_eq _ _ hs.1 (by omega) (by omega)]
  unfold fl rs
  rw [rd_map _ _ _ hi, rd_map _ _ _ hi]
end Go.Proofs.Ytfmjhckndlngaaa.Pure
