/- Drawn lengths and amount: the shares are right, 0 at length 0, exact where they come out even, and none is less than that of a shorter length. -/
import Derived.Test.YtfmjhckndlngaaaDrawShareOf
import Derived.Test.YtfmjhckndlngaaaShareB
import Derived.Test.YtfmjhckndlngaaaShareOkL
import Derived.Test.YtfmjhckndlngaaaSumOf
import Derived.Test.YtfmjhckndlngaaaQ11
import Derived.Test.YtfmjhckndlngaaaQ25
namespace Go.Proofs.Ytfmjhckndlngaaa.Pure
open Go.RowKit Go.Proofs.Ytfmjhckndlngaaa.Q Go.Proofs.YtfmjhckndlngaaaW.PrintWords Go.Proofs.YtfmjhckndlngaaaW.PrintLast
theorem nearB_iff (l : List Int) (a : Int) (s : List Int) : ∀ i : Nat, nearB l a s i = true ↔ ∀ j : Nat, j < s.length → ((rd s (j : Int) * l.sum - a * rd l ((i + j : Nat) : Int)).natAbs : Int) < l.sum := by
  induction s with
  | nil => intro i; simp [nearB]
  | cons y s ih =>
    intro i
    simp only [nearB, Bool.and_eq_true, decide_eq_true_eq, ih (i + 1), List.length_cons]
    constructor
    · rintro ⟨h1, h2⟩ j hj
      cases j with
      | zero => rw [rd_cons_zero, Nat.add_zero]; exact h1
      | succ j => have := h2 j (by omega); rw [rd_cons_succ, show i + (j + 1) = i + 1 + j by omega]; exact this
    · intro h
      refine ⟨?_, fun j hj => ?_⟩
      · have := h 0 (by omega); rw [rd_cons_zero, Nat.add_zero] at this; exact this
      · have := h (j + 1) (by omega); rw [rd_cons_succ, show i + (j + 1) = i + 1 + j by omega] at this; exact this
theorem mono_aux {F1 F2 R1 R2 X1 X2 s p1 p2 t a : Int} (f1 : F1 * s + R1 = X1) (f2 : F2 * s + R2 = X2) (hm : X2 + a ≤ X1) (hF : F2 ≤ F1) (b1 : p1 = 0 ∨ p1 = 1) (b2 : p2 = 0 ∨ p2 = 1) (r1 : p1 = 0 → R1 ≤ t) (r2 : p2 = 1 → t ≤ R2 ∧ 0 < R2) (ha : 0 ≤ a) (h0 : a = 0 → R2 = 0) : ¬ F1 + p1 < F2 + p2 := by
  intro h
  have e : F2 = F1 := by clear f1 f2; omega
  subst e
  generalize F2 * s = z at *
  have q1 : p1 = 0 := by omega
  have q2 : p2 = 1 := by omega
  have g1 := r1 q1
  have g2 := r2 q2
  have a0 : a = 0 := by omega
  have := h0 a0
  omega
theorem quot_bd {q s a : Int} (hs : 0 < s) (e : a = q * s) (ha : -10000000 ≤ a ∧ a ≤ 10000000) : -10000000 ≤ q ∧ q ≤ 10000000 := by
  constructor
  · rcases Int.lt_or_le q (-10000000) with c | c
    · have h1 : (q + 10000000) * s ≤ -1 * s := Int.mul_le_mul_of_nonneg_right (by omega) (by omega)
      rw [Int.add_mul] at h1
      generalize q * s = z at *
      omega
    · exact c
  · rcases Int.lt_or_le 10000000 q with c | c
    · have h1 : 1 * s ≤ (q - 10000000) * s := Int.mul_le_mul_of_nonneg_right (by omega) (by omega)
      rw [Int.sub_mul] at h1
      generalize q * s = z at *
      omega
    · exact c
theorem Sh_l1 {l out : List Int} {a s : Int} (hl : l.length ≤ 20) (ho : out.length = l.length) {i : Nat} (hi : i < l.length) (h3 : 0 ≤ a → ∀ k : Nat, k < l.length → rd l (i : Int) > rd l (k : Int) → ¬ rd out (i : Int) < rd out (k : Int)) (m : Nat) : ∀ (j k : Nat), j + m = l.length →
    laws_FnShare.l1 (k + m + 1) l a out s (i : Int) (j : Int) = laws_FnShare.l0 k l a out s ((i + 1 : Nat) : Int) := by
  induction m with
  | zero =>
    intro j k hj
    simp only [laws_FnShare.l1]
    rw [if_neg (by omega), sw64 (x := (i : Int) + 1) (by omega) (by omega)]; rfl
  | succ m ih =>
    intro j k hj
    rw [show k + (m + 1) + 1 = (k + m + 1) + 1 by omega, laws_FnShare.l1]
    have hn : wrap64 ((j : Int) + 1) = ((j + 1 : Nat) : Int) := by rw [sw64 (x := (j : Int) + 1) (by omega) (by omega)]; rfl
    rw [if_pos (by omega), hn, ih (j + 1) k (by omega)]
    by_cases ca : a ≥ 0
    · rw [if_pos ca, if_pos (by omega), if_pos (by omega), if_pos (by omega)]
      by_cases c : rd l (i : Int) > rd l (j : Int)
      · rw [if_pos c, if_pos (by omega), if_pos (by omega), if_neg (h3 ca j (by omega) c)]
      · rw [if_neg c]
    · rw [if_neg ca]
theorem Sh_l0 {l out : List Int} {a : Int} (hl : l.length ≤ 6) (ho : out.length = l.length) (hs : 0 < l.sum)
    (h1 : ∀ i : Nat, i < l.length → rd l (i : Int) = 0 → rd out (i : Int) = 0)
    (h2 : Int.tmod a l.sum = 0 → ∀ i : Nat, i < l.length → rd out (i : Int) = wrap64 ((wrap64 (Int.tdiv a l.sum)) * (rd l (i : Int))))
    (h3 : 0 ≤ a → ∀ i k : Nat, i < l.length → k < l.length → rd l (i : Int) > rd l (k : Int) → ¬ rd out (i : Int) < rd out (k : Int))
    (h4 : ∀ k : Nat, 30 < k → impl_ShareOk.f k l a out = some true) (m : Nat) : ∀ (i k : Nat), 9 * m + 40 < k → i + m = l.length → laws_FnShare.l0 k l a out l.sum (i : Int) = some true := by
  induction m with
  | zero =>
    intro i k hk hi
    obtain ⟨k, rfl⟩ : ∃ m, k = m + 1 := ⟨k - 1, by omega⟩
    simp only [laws_FnShare.l0]
    rw [if_neg (by omega), h4 k (by omega)]; rfl
  | succ m ih =>
    intro i k hk hi
    obtain ⟨k, rfl⟩ : ∃ q, k = q + l.length + 1 + 1 + 1 := ⟨k - l.length - 3, by omega⟩
    have hj2 : laws_FnShare.j2 (k + l.length + 1 + 1) l a out l.sum (i : Int) false = some true := by
      simp only [laws_FnShare.j2]
      rw [if_neg (by simp)]
      have := Sh_l1 (s := l.sum) (by omega) ho (i := i) (by omega) (fun ca k hk => h3 ca i k (by omega) hk) l.length 0 k (by omega)
      rw [show ((0 : Nat) : Int) = 0 from rfl] at this
      rw [this]
      exact ih (i + 1) k (by omega) (by omega)
    have hil : i < l.length := by omega
    have hx : Int.tmod a l.sum = 0 → (rd out (i : Int) != wrap64 ((wrap64 (Int.tdiv a l.sum)) * (rd l (i : Int)))) = false := fun c => by
      rw [h2 c i hil, bne_self_eq_false]
    have hio : (i : Int) < (out.length : Int) := by omega
    have hs0 : ¬ l.sum = 0 := by omega
    rw [laws_FnShare.l0, if_pos (by omega), if_pos (by omega)]
    by_cases c : rd l (i : Int) = 0
    · rw [if_pos c, if_pos hio, if_pos (h1 i (by omega) c), if_neg hs0]
      by_cases c2 : Int.tmod a l.sum = 0
      · rw [if_pos c2, hx c2]; exact hj2
      · rw [if_neg c2]; exact hj2
    · rw [if_neg c, if_neg hs0]
      by_cases c2 : Int.tmod a l.sum = 0
      · rw [if_pos c2, if_pos hio, hx c2]; exact hj2
      · rw [if_neg c2]; exact hj2
theorem share_l0 (k : Nat) (hk : 100 < k) {l : List Int} {a : Int} {out : List Int} {p : Nat → Int} {t : Int} (hl6 : l.length ≤ 6) (hv : AV l a) (hSP : SP l a out (fun i => a * rd l (i : Int) / l.sum) (fun i => a * rd l (i : Int) % l.sum) p t) :
    laws_FnShare.l0 k l a out l.sum 0 = some true := by
  have hs := hv.1.sum
  have ha := hv.2
  have zero : ∀ i : Nat, i < l.length → a * rd l (i : Int) % l.sum = 0 → p i = 0 := fun i hi h0 => by
    rcases hSP.pb i hi with q | q
    · exact q
    · have z := (hSP.p1 i hi q).2
      rw [h0] at z
      exact absurd z (by decide)
  rw [show (0 : Int) = ((0 : Nat) : Int) from rfl]
  refine Sh_l0 hl6 hSP.len hs.1 (fun i hi h0 => ?_) (fun h0 i hi => ?_) (fun h0 i k hi hk hgt hlt => ?_) (fun k hk => ?_) l.length 0 k (by omega) (by omega)
  · have z := zero i hi (by rw [h0]; simp)
    have := hSP.out_ i hi
    rw [z, h0] at this
    simpa using this
  · have ea : a = Int.tdiv a l.sum * l.sum := by
      have := Int.tdiv_mul_add_tmod a l.sum
      rw [h0, Int.add_zero] at this
      exact this.symm
    clear h0
    have hq := quot_bd hs.1 ea ha
    have hr := hv.1.at_ (i : Int)
    have e2 : a * rd l (i : Int) = Int.tdiv a l.sum * rd l (i : Int) * l.sum := by
      conv => lhs; rw [ea]
      rw [Int.mul_assoc, Int.mul_comm l.sum, ← Int.mul_assoc]
    have z := zero i hi (by rw [e2]; exact Int.mul_emod_left _ _)
    have ho := hSP.out_ i hi
    have hs0 : l.sum ≠ 0 := by omega
    rw [z, e2, Int.mul_ediv_cancel _ hs0, Int.add_zero] at ho
    rw [ho]
    generalize Int.tdiv a l.sum = q at hq
    have hb := mulb (x := q) (y := rd l (i : Int)) (m := 10000000) (n := 10000) hq (by omega) (by omega) (by omega)
    rw [sw64 (x := q) (by omega) (by omega), sw64 (by omega) (by omega)]
  · have hm : a * (rd l (k : Int) + 1) ≤ a * rd l (i : Int) := Int.mul_le_mul_of_nonneg_left (by omega) h0
    rw [Int.mul_add, Int.mul_one] at hm
    have hf : a * rd l (k : Int) / l.sum ≤ a * rd l (i : Int) / l.sum := Int.ediv_le_ediv hs.1 (Int.le_trans (Int.le_add_of_nonneg_right h0) hm)
    have hlt' := hlt
    rw [hSP.out_ i hi, hSP.out_ k hk] at hlt'
    exact mono_aux (hSP.fr i hi) (hSP.fr k hk) hm hf (hSP.pb i hi) (hSP.pb k hk) (hSP.p0 i hi) (hSP.p1 k hk) h0 (fun e => by rw [e]; simp) hlt'
  · rw [impl_ShareOk_eq _ _ _ _ hk]
    congr 1
    unfold okR
    rw [decide_eq_true_eq]
    refine ⟨hv, hSP.len, ?_, hSP.total⟩
    rw [nearB_iff]
    intro j hj
    rw [Nat.zero_add]
    exact hSP.near j (by have := hSP.len; omega)
theorem share_j0 (k : Nat) (hk : 100 < k) {l : List Int} {a : Int} {out : List Int} {p : Nat → Int} {t : Int} (hl6 : l.length ≤ 6) (hv : AV l a) (hSP : SP l a out (fun i => a * rd l (i : Int) / l.sum) (fun i => a * rd l (i : Int) % l.sum) p t) :
    laws_FnShare.j0 (k + 1) l a out true out true false = some true := by
  rw [laws_FnShare.j0, if_neg (by simp), sumOf_eq k 10000 l (by omega) (fun x hx => by have := hv.1.1 x hx; omega) (by omega) (by omega), Option.bind_some]
  exact share_l0 k hk hl6 hv hSP
theorem share_j0n (k : Nat) (hk : 100 < k) (l : List Int) (a : Int) : laws_FnShare.j0 (k + 1) l a [] false [] false true = some true := by
  rw [laws_FnShare.j0, if_pos rfl, if_pos (by rfl), sameInts_self k [] (by simp; omega) (by simp), Option.bind_some]
theorem FnShare : laws_FnShare.Pure := by
  intro l0 _ _ hl0
  refine ⟨1003, ?_⟩
  unfold laws_FnShare.f
  split
  · rfl
  · obtain ⟨l, a, hd, hl6⟩ := DrawShareOf_ok 1003 (by omega) hl0
    rw [hd]; simp only [Option.bind_some, impl_ShareOf.f]
    rw [spec_ShareOf_eq _ _ _ (by omega) (by omega)]
    simp only [Option.bind_some]
    have hlen : (shR l a).1.length ≤ l.length := by
      unfold shR
      split
      · show (pickN _ _ _).length ≤ _; rw [pickN_length]; simp [fl]
      · simp
    rw [if_neg (by simp), sameInts_self _ _ (by omega) (by omega)]
    simp only [Option.bind_some]
    rw [if_pos trivial]
    by_cases hv : AV l a
    · have e : shR l a = (pickN (a - (fl l a).sum).toNat (fl l a) (rs l a), true) := by unfold shR; rw [if_pos hv]
      obtain ⟨p, t, hSP⟩ := share_SP hv
      rw [e]
      exact share_j0 1002 (by omega) hl6 hv hSP
    · have e : shR l a = ([], false) := by unfold shR; rw [if_neg hv]
      rw [e]
      exact share_j0n 1002 (by omega) l a
end Go.Proofs.Ytfmjhckndlngaaa.Pure
