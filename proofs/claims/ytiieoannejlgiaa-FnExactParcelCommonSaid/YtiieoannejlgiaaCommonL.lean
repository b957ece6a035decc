/- The reference's count of common sides is the program's: the corners of a simple ring differ. -/
import Derived.Test.YtiieoannejlgiaaRingParcelCommon
import Derived.Test.YtiieoannejlgiaaSpecOk
import Derived.Test.YtiieoannejlgiaaParcelL
import Derived.Test.YtiieoannejlgiaaQ26
import Derived.Test.YtiieoannejlgiaaQ36
import Derived.Test.YtiieoannejlgiaaQ37
namespace Go.Proofs.Ytiieoannejlgiaa.Pure
open Go.RowKit Go.Proofs.Ytiieoannejlgiaa.Q Go.Proofs.Ytiieoannejlgiaa.Ring Go.Proofs.YtiieoannejlgiaaW.PrintWords Go.Proofs.YtiieoannejlgiaaW.PrintLast
theorem pwQ {x : Int} (h0 : 0 ≤ x) (h1 : x ≤ 4611686018427387904) : wrap64 x = x := by unfold wrap64; omega
theorem same_iff {p q : Pt} : sameP p q = true ↔ p = q := by
  obtain ⟨a, b⟩ := p
  obtain ⟨c, d⟩ := q
  simp [sameP]
theorem same_sym (p q : Pt) : sameP p q = sameP q p := by
  cases h : sameP p q <;> cases h' : sameP q p <;> first | rfl | skip
  · rw [same_iff.2 (same_iff.1 h').symm] at h; cases h
  · rw [same_iff.2 (same_iff.1 h).symm] at h'; cases h'
theorem at_inj {l : List Pt} (h : simpleB l = true) {i j : Nat} (hi : i < l.length) (hj : j < l.length) (e : at_ l i = at_ l j) : i = j := by
  have H := (simple_iff.1 h).1
  have key : ∀ i j, i < l.length → j < l.length → i < j → at_ l i = at_ l j → False := by
    intro i j hi hj hij e
    have := H i hi (j - i - 1) (by omega)
    unfold dupAt at this
    rw [show i + 1 + (j - i - 1) = j by omega, Nat.mod_eq_of_lt hj, same_iff.2 e.symm] at this
    cases this
  rcases Nat.lt_trichotomy i j with q | q | q
  · exact (key i j hi hj q e).elim
  · exact q
  · exact (key j i hj hi q e.symm).elim
theorem okP_simple {l : List Pt} (h : okP l = true) : simpleB l = true := by
  unfold okP okS at h
  simp only [Bool.and_eq_true] at h
  exact h.1.2
/-- Of the first sides of m so many lead from q to p. -/
def cI (m : List Pt) (p q : Pt) : Nat → Int
  | 0 => 0
  | t + 1 => if hasAt m p q t then cI m p q t + 1 else cI m p q t
theorem cI_none {m : List Pt} {p q : Pt} {n : Nat} (h : ∀ t, t < n → hasAt m p q t = false) : cI m p q n = 0 := by
  induction n with
  | zero => rfl
  | succ n ih => rw [cI, h n (by omega), if_neg (by decide), ih (fun t ht => h t (by omega))]
theorem cI_bd (m : List Pt) (p q : Pt) (n : Nat) : 0 ≤ cI m p q n ∧ cI m p q n ≤ n := by
  induction n with
  | zero => simp [cI]
  | succ n ih => rw [cI]; split <;> omega
theorem cI_one {m : List Pt} {p q : Pt} {j : Nat} (hs : simpleB m = true) (hj : j < m.length) (h : hasAt m p q j = true) : ∀ n, n ≤ m.length → cI m p q n = if j < n then 1 else 0 := by
  intro n
  induction n with
  | zero => intro _; simp [cI]
  | succ n ih =>
    intro hn
    rw [cI, ih (by omega)]
    by_cases e : n = j
    · subst e; rw [h, if_pos rfl, if_neg (by omega), if_pos (by omega)]; rfl
    · have hf : hasAt m p q n = false := by
        cases c : hasAt m p q n
        · rfl
        · unfold hasAt at c h
          rw [Bool.and_eq_true] at c h
          exact (e (at_inj hs (by omega) hj ((same_iff.1 c.1).trans (same_iff.1 h.1).symm))).elim
      rw [hf, if_neg (by decide)]
      by_cases q : j < n
      · rw [if_pos q, if_pos (by omega)]
      · rw [if_neg q, if_neg (by omega)]
theorem cI_all {m : List Pt} (hs : simpleB m = true) (p q : Pt) : cI m p q m.length = if hasS m p q then 1 else 0 := by
  cases c : hasS m p q
  · rw [if_neg (by decide)]
    refine cI_none (fun t ht => ?_)
    cases d : hasAt m p q t
    · rfl
    · rw [hasS_yes ht d] at c; cases c
  · rw [if_pos rfl]
    unfold hasS at c
    obtain ⟨k, hk, hh⟩ := List.any_eq_true.1 c
    rw [cI_one hs (List.mem_range.1 hk) hh m.length (Nat.le_refl _), if_pos (List.mem_range.1 hk)]
theorem idxQ {j n : Nat} (hj : j < n) (hn : n ≤ 1048576) : Int.tmod (wrap64 ((j : Int) + 1)) (n : Int) = (((j + 1) % n : Nat) : Int) := by
  rw [pwQ (by omega) (by omega), show (j : Int) + 1 = ((j + 1 : Nat) : Int) by omega, Int.tmod_eq_emod_of_nonneg (by omega)]
  simp
theorem Common_l1 {l m : List Pt} (hl : l.length ≤ 12) (hm : m.length ≤ 12) {i : Nat} (hi : i < l.length) (c : Int) (hc : 0 ≤ c ∧ c ≤ 1000) (k : Nat) (n : Nat) :
    ∀ t, t + n = m.length → spec_ParcelCommon.l1 (k + n + 1) l m (c + cI m (nxt l i) (at_ l i) t) (i : Int) (t : Int) = spec_ParcelCommon.l0 k l m (c + cI m (nxt l i) (at_ l i) m.length) ((i + 1 : Nat) : Int) := by
  induction n with
  | zero =>
    intro t ht
    rw [spec_ParcelCommon.l1, if_neg (by omega), show t = m.length by omega, show wrap64 ((i : Int) + 1) = ((i + 1 : Nat) : Int) by rw [pwQ (by omega) (by omega)]; omega]
  | succ n ih =>
    intro t ht
    have htm : t < m.length := by omega
    have h1 : (i + 1) % l.length < l.length := Nat.mod_lt _ (by omega)
    have h2 : (t + 1) % m.length < m.length := Nat.mod_lt _ (by omega)
    have hw : wrap64 ((t : Int) + 1) = ((t + 1 : Nat) : Int) := by rw [pwQ (by omega) (by omega)]; omega
    rw [show k + (n + 1) + 1 = (k + n + 1) + 1 by omega, spec_ParcelCommon.l1, if_pos (by omega), if_pos (by omega), if_pos (by omega), if_neg (by omega), idxQ htm (by omega), if_pos (by omega), if_pos (by omega)]
    simp only [at_rd]
    have go := ih (t + 1) (by omega)
    rw [cI] at go
    unfold hasAt at go
    have e1 : ((at_ l i).f0 == (at_ m ((t + 1) % m.length)).f0 && ((at_ l i).f1 == (at_ m ((t + 1) % m.length)).f1)) = sameP (nxt m t) (at_ l i) := by rw [same_sym]; rfl
    have e2 : ((at_ l ((i + 1) % l.length)).f0 == (at_ m t).f0 && ((at_ l ((i + 1) % l.length)).f1 == (at_ m t).f1)) = sameP (at_ m t) (nxt l i) := by rw [same_sym]; rfl
    have hb := cI_bd m (nxt l i) (at_ l i) t
    rw [e1]
    cases a : sameP (nxt m t) (at_ l i)
    · rw [a, Bool.and_false, if_neg (by decide)] at go
      rw [if_neg (by decide), hw]; exact go
    · rw [a, Bool.and_true] at go
      rw [if_pos rfl, if_neg (by omega), idxQ hi (by omega), if_pos (by omega), if_pos (by omega), if_pos (by omega), at_rd, e2]
      cases b : sameP (at_ m t) (nxt l i)
      · rw [b, if_neg (by decide)] at go
        rw [if_neg (by decide), hw]; exact go
      · rw [b, if_pos rfl] at go
        rw [if_pos rfl, hw, pwQ (x := c + cI m (nxt l i) (at_ l i) t + 1) (by omega) (by omega), Int.add_assoc]; exact go
theorem cntS_bd (l m : List Pt) (n : Nat) (hn : n ≤ 1000) : 0 ≤ cntS l m n ∧ cntS l m n ≤ n := by
  induction n with
  | zero => simp [cntS]
  | succ n ih =>
    have := ih (by omega)
    rw [cntS]
    split
    · rw [pwQ (by omega) (by omega)]; omega
    · omega
theorem Common_l0 {l m : List Pt} (hl : l.length ≤ 12) (hm : m.length ≤ 12) (hs : simpleB m = true) (n : Nat) :
    ∀ i k, i + n = l.length → 14 * n + 1 < k → spec_ParcelCommon.l0 k l m (cntS l m i) (i : Int) = some (cntS l m l.length) := by
  induction n with
  | zero =>
    intro i k hi hk
    obtain ⟨k, rfl⟩ : ∃ q, k = q + 1 := ⟨k - 1, by omega⟩
    rw [spec_ParcelCommon.l0, if_neg (by omega), show i = l.length by omega]
  | succ n ih =>
    intro i k hi hk
    obtain ⟨k, rfl⟩ : ∃ q, k = q + m.length + 1 + 1 := ⟨k - m.length - 2, by omega⟩
    have hil : i < l.length := by omega
    rw [spec_ParcelCommon.l0, if_pos (by omega)]
    have hb := cntS_bd l m i (by omega)
    have h := Common_l1 hl hm hil (cntS l m i) (by omega) k m.length 0 (by omega)
    rw [show cI m (nxt l i) (at_ l i) 0 = 0 from rfl, Int.add_zero] at h
    rw [show ((0 : Nat) : Int) = 0 from rfl] at h
    rw [h, cI_all hs]
    have go := ih (i + 1) k (by omega) (by omega)
    rw [cntS] at go
    cases c : hasS m (nxt l i) (at_ l i)
    · rw [c, if_neg (by decide)] at go
      rw [if_neg (by decide), Int.add_zero]; exact go
    · rw [c, if_pos rfl, pwQ (by omega) (by omega)] at go
      rw [if_pos rfl]; exact go
def commonR (l m : List Pt) : Int := if okP l && okP m then cntS l m l.length else -1
theorem okP_len {l : List Pt} (h : okP l = true) : l.length ≤ 12 := (cvB_iff.1 (okP_cv h)).1.2
theorem specCommon_eq {l m : List Pt} (hl : l.length ≤ 1048576) (hm : m.length ≤ 1048576) (k : Nat) (hk : l.length + m.length + 200 < k) : spec_ParcelCommon.f k l m = some (commonR l m) := by
  obtain ⟨k, rfl⟩ : ∃ q, k = q + 1 := ⟨k - 1, by omega⟩
  unfold spec_ParcelCommon.f commonR
  rw [specPValid_eq hl _ (by omega), specPValid_eq hm _ (by omega)]
  simp only [Option.bind_some]
  cases c : okP l
  · rfl
  · cases d : okP m
    · rfl
    · have h1 := okP_len c
      rw [if_pos rfl]
      simp only [spec_ParcelCommon.j0]
      rw [if_neg (by decide)]
      exact Common_l0 h1 (okP_len d) (okP_simple d) l.length 0 k (by omega) (by omega)
theorem implCommon_eq (l m : List Pt) : impl_ParcelCommon.f l m = some (commonR l m) := by
  unfold impl_ParcelCommon.f commonR
  cases okP l <;> cases okP m <;> rfl
end Go.Proofs.Ytiieoannejlgiaa.Pure
