/- Part 5 of what the proof of this law rests on: the functions of the translation as plain Lean functions with their walks, and the plain laws behind. -/
import Derived.Test.YtmcfhmflncghiaaMFnShareRing4
namespace Go.Proofs.Ytmcfhmflncghiaa.Pure
open Go.RowKit Go.Proofs.Ytmcfhmflncghiaa.Q Go.Proofs.Ytmcfhmflncghiaa.TreeW Go.Proofs.YtmcfhmflncghiaaW.PrintWords Go.Proofs.YtmcfhmflncghiaaW.PrintLast Go.Proofs.YtmcfhmflncghiaaW.PrintMore
theorem pick_l0 {l : List Run} (suf : List Int) : ∀ (pre : List Int) (acc : List Run) (k : Nat), suf.length < k → pre.length + suf.length ≤ 100 → acc.length + suf.length ≤ 100 → (∀ x ∈ suf, 0 ≤ x ∧ x < (l.length : Int)) →
    impl_pick.l0 k l acc (pre ++ suf) ((pre ++ suf).length : Int) (pre.length : Int) = some (acc ++ pk l suf) := by
  induction suf with
  | nil =>
    intro pre acc k hk _ _ _
    obtain ⟨k, rfl⟩ : ∃ m, k = m + 1 := ⟨k - 1, by omega⟩
    simp [impl_pick.l0, pk]
  | cons y suf ih =>
    intro pre acc k hk hl ha hx
    simp only [List.length_cons] at hk hl ha
    obtain ⟨k, rfl⟩ : ∃ m, k = m + 1 := ⟨k - 1, by omega⟩
    have hy := hx y (by simp)
    rw [impl_pick.l0, if_pos (len_midI _ _ _), if_pos (by omega), if_pos (len_midI _ _ _), rd_midI, if_pos hy.1, if_pos hy.2, if_pos (by omega), next_midI pre y (by omega), app_midI pre suf y]
    have := ih (pre ++ [y]) (acc ++ [rd_T32 l y]) k (by omega) (by simp; omega) (by simp; omega) (fun x hm => hx x (by simp [hm]))
    refine this.trans ?_
    simp [pk]
theorem pick_eq (k : Nat) {l : List Run} {t : List Int} (hk : 50 < k) (ht : t.length ≤ 20) (hx : ∀ x ∈ t, 0 ≤ x ∧ x < (l.length : Int)) : impl_pick.f k l t = some (pk l t) := by
  unfold impl_pick.f
  rw [if_pos (by omega), if_pos (by omega)]
  have := pick_l0 (l := l) t [] [] k (by omega) (by simp; omega) (by simp; omega) hx
  simpa using this
theorem ft_len (n : Int) (l : List Run) : ∀ m, (ftree n l m).length ≤ m
  | 0 => by simp [ftree]
  | m + 1 => by
    have := ft_len n l m
    rw [ftree, ftStep]
    split
    · omega
    · rw [List.length_append, List.length_singleton]; omega
theorem pk_valid {n : Int} {l : List Run} (hv : nvB n l = true) {t : List Int} (ht : t.length ≤ 12) (hx : ∀ x ∈ t, 0 ≤ x ∧ x < (l.length : Int)) : nvB n (pk l t) = true := by
  have hn := nvB_n hv
  unfold nvB at hv ⊢
  rw [Bool.and_eq_true, decide_eq_true_iff, List.all_eq_true] at hv ⊢
  refine ⟨⟨hn.1, hn.2.1, by simp [pk]; exact ht⟩, fun r hr => hv.2 r (pk_sub hx r hr)⟩
theorem leastLinked_eq {n : Int} {l : List Run} (hv : nvB n l = true) : impl_leastLinked.f n l = some (leastR n l) := by
  unfold impl_leastLinked.f; rw [if_pos hv]
theorem TreeFirst_l0 {n : Int} {l : List Run} (hv : nvB n l = true) (c : Nat) : ∀ (i k : Nat), l.length - i = c → i ≤ l.length → c + 55 < k →
    impl_TreeFirst.l0 k n l (ftree n l i) l (l.length : Int) (i : Int) = some (ftree n l l.length, true) := by
  have hn := nvB_n hv
  have hVL := nvB_VL hv
  induction c with
  | zero =>
    intro i k hc hi hk
    obtain ⟨k, rfl⟩ : ∃ m, k = m + 1 := ⟨k - 1, by omega⟩
    rw [impl_TreeFirst.l0, if_neg (by omega), show i = l.length by omega]
  | succ c ih =>
    intro i k hc hi hk
    obtain ⟨k, rfl⟩ : ∃ m, k = m + 1 := ⟨k - 1, by omega⟩
    have hft := ft_len n l i
    have hlt := ft_lt n l i
    have hx : ∀ x ∈ ftree n l i, 0 ≤ x ∧ x < (l.length : Int) := fun x hm => by have := hlt x hm; omega
    have hpv := pk_valid hv (by omega) hx
    have hL := (leastR_lst (by omega) _ (nvB_VL hpv)).len
    have hr := hVL _ (rdT_mem (l := l) (k := i) (by omega))
    dsimp only [rdT] at hr
    have hnx := ih (i + 1) k (by omega) (by omega) (by omega)
    rw [ftree, ftStep] at hnx
    rw [impl_TreeFirst.l0, if_pos (by omega), if_pos (by omega), if_pos (by omega), pick_eq k (by omega) (by omega) hx]
    simp only [Option.bind_some]
    rw [leastLinked_eq hpv]
    simp only [Option.bind_some]
    rw [if_pos hr.1, if_pos (by omega), if_pos hr.2.2.1, if_pos (by omega), nw64 (x := (i : Int) + 1) (by omega) (by omega)]
    split
    · next c1 =>
      rw [if_pos c1] at hnx
      exact hnx
    · next c1 =>
      rw [if_neg c1] at hnx
      rw [if_pos (by omega)]
      exact hnx
theorem TreeFirst_eq (k : Nat) {n : Int} {l : List Run} (hk : 100 < k) (hw : wholeB n l = true) : impl_TreeFirst.f k n l = some (ftree n l l.length, true) := by
  have hv := (wholeB_iff.1 hw).1
  have hn := nvB_n hv
  unfold impl_TreeFirst.f
  rw [NetWhole_eq k n l (by omega), hw]
  simp only [Option.bind_some]
  rw [if_pos trivial]
  have := TreeFirst_l0 hv l.length 0 k (by omega) (by omega) (by omega)
  exact this
theorem Index_l0 (x : Int) (suf : List Int) : ∀ (pre : List Int) (k : Nat), suf.length < k → pre.length + suf.length ≤ 100 → ∃ v, slices_Index_int_int.l0 k (pre ++ suf) x ((pre ++ suf).length : Int) (pre.length : Int) = some v ∧ (v ≥ 0 ↔ x ∈ suf) := by
  induction suf with
  | nil =>
    intro pre k hk _
    obtain ⟨k, rfl⟩ : ∃ m, k = m + 1 := ⟨k - 1, by omega⟩
    exact ⟨-1, by simp [slices_Index_int_int.l0], by simp⟩
  | cons y suf ih =>
    intro pre k hk hl
    simp only [List.length_cons] at hk hl
    obtain ⟨k, rfl⟩ : ∃ m, k = m + 1 := ⟨k - 1, by omega⟩
    rw [slices_Index_int_int.l0, if_pos (len_midI _ _ _), if_pos (by omega), if_pos (len_midI _ _ _), rd_midI]
    by_cases c : x = y
    · rw [if_pos c]
      exact ⟨_, rfl, by simp [c]⟩
    · rw [if_neg c, next_midI pre y (by omega), app_midI pre suf y]
      obtain ⟨v, h1, h2⟩ := ih (pre ++ [y]) k (by omega) (by simp; omega)
      exact ⟨v, h1, by rw [h2]; simp [c]⟩
theorem Contains_eq (k : Nat) {t : List Int} (x : Int) (hk : 50 < k) (ht : t.length ≤ 20) : slices_Contains_int_int.f k t x = some (decide (x ∈ t)) := by
  obtain ⟨v, h1, h2⟩ := Index_l0 x t [] k (by omega) (by simp; omega)
  simp only [List.nil_append, List.length_nil] at h1
  rw [show ((0 : Nat) : Int) = 0 from rfl] at h1
  unfold slices_Contains_int_int.f slices_Index_int_int.f
  rw [h1]
  simp only [Option.bind_some]
  congr 1
  rw [decide_eq_decide]; exact h2
/-- The run of a number, in its direction. -/
def nrun (l : List Run) (x : Int) : Run := if x > 0 then rdT l (x - 1) else ⟨(rdT l (-x - 1)).f1, (rdT l (-x - 1)).f0, -(rdT l (-x - 1)).f2, (rdT l (-x - 1)).f3⟩
theorem rdT_any {l : List Run} {x : Int} (h0 : 0 ≤ x) (h1 : x < (l.length : Int)) : rdT l x ∈ l := by
  obtain ⟨i, rfl⟩ : ∃ i : Nat, x = i := ⟨x.toNat, by omega⟩
  exact rdT_mem (by omega)
theorem nvB_all {n : Int} {l : List Run} (hv : nvB n l = true) {r : Run} (hr : r ∈ l) : (0 ≤ r.f0 ∧ r.f0 < n ∧ 0 ≤ r.f1 ∧ r.f1 < n ∧ r.f0 ≠ r.f1) ∧ (-100000 ≤ r.f2 ∧ r.f2 ≤ 100000) ∧ 1 ≤ r.f3 ∧ r.f3 ≤ 9 := by
  unfold nvB at hv
  rw [Bool.and_eq_true, List.all_eq_true] at hv
  have := hv.2 r hr
  unfold rvB at this
  exact of_decide_eq_true this
theorem numberRun_eq (k : Nat) {n : Int} {l : List Run} (hk : 1 < k) (hv : nvB n l = true) {x : Int} (hx : x ≠ 0 ∧ -(l.length : Int) ≤ x ∧ x ≤ l.length) :
    impl_numberRun.f k l x = some ((nrun l x).f0, (nrun l x).f1, (nrun l x).f2, (nrun l x).f3, true) := by
  have hn := nvB_n hv
  obtain ⟨k, rfl⟩ : ∃ m, k = m + 1 := ⟨k - 1, by omega⟩
  unfold impl_numberRun.f nrun
  rw [if_neg hx.1, nw64 (x := -(l.length : Int)) (by omega) (by omega), if_neg (by omega), decide_eq_false (by omega), impl_numberRun.j0, if_neg (by simp)]
  by_cases c : x > 0
  · rw [if_pos c, if_pos c, nw64 (x := x - 1) (by omega) (by omega), if_pos (by omega), if_pos (by omega)]
  · have hr := nvB_all hv (rdT_any (l := l) (x := -x - 1) (by omega) (by omega))
    dsimp only [rdT] at hr
    rw [if_neg c, if_neg c, nw64 (x := -x) (by omega) (by omega), nw64 (x := -x - 1) (by omega) (by omega), if_pos (by omega), if_pos (by omega), nw64 (x := -(rd_T32 l (-x - 1)).f2) (by omega) (by omega)]
theorem nrun_f2 (l : List Run) (x : Int) : (nrun l x).f2 = nrise l x := by
  unfold nrun nrise; split <;> rfl
/-- A chain of numbers. -/
def Ch (l : List Run) : Int → List Int → Int → Prop
  | a, [], b => a = b
  | a, x :: w, b => (x ≠ 0 ∧ -(l.length : Int) ≤ x ∧ x ≤ l.length) ∧ (nrun l x).f0 = a ∧ Ch l (nrun l x).f1 w b
theorem Way.ch {l : List Run} {t : List Int} (ht : ∀ k ∈ t, 0 ≤ k ∧ k < (l.length : Int)) {w : List Int} {a b : Int} (h : Way l t w a b) : Ch l a w b := by
  induction h with
  | nil a => exact rfl
  | @up k w b hk _ ih =>
    have := ht k hk
    have e : nrun l (k + 1) = rdT l k := by unfold nrun; rw [if_pos (by omega), show k + 1 - 1 = k by omega]
    exact ⟨by omega, by rw [e], by rw [e]; exact ih⟩
  | @dn k w b hk _ ih =>
    have := ht k hk
    have e : nrun l (-(k + 1)) = ⟨(rdT l k).f1, (rdT l k).f0, -(rdT l k).f2, (rdT l k).f3⟩ := by unfold nrun; rw [if_neg (by omega), show -(-(k + 1)) - 1 = k by omega]
    exact ⟨by omega, by rw [e], by rw [e]; exact ih⟩
theorem Ch.last {l : List Run} {b : Int} : ∀ (z : List Int) (y a : Int), Ch l a (z ++ [y]) b → (nrun l y).f1 = b ∧ y ≠ 0 ∧ -(l.length : Int) ≤ y ∧ y ≤ l.length
  | [], _, _, h => ⟨h.2.2, h.1⟩
  | _ :: z, y, _, h => Ch.last z y _ h.2.2
theorem LoopIs_l0 {n : Int} {l : List Run} (hv : nvB n l = true) (suf : List Int) : ∀ (pre : List Int) (a b : Int) (k : Nat), suf.length + 2 < k → pre.length + suf.length ≤ 100 → Ch l a suf b → impl_LoopIs.l0 k l a (pre ++ suf) ((pre ++ suf).length : Int) (pre.length : Int) = some true := by
  induction suf with
  | nil =>
    intro pre a b k hk _ _
    obtain ⟨k, rfl⟩ : ∃ m, k = m + 1 := ⟨k - 1, by omega⟩
    simp [impl_LoopIs.l0]
  | cons y suf ih =>
    intro pre a b k hk hl hc
    simp only [List.length_cons] at hk hl
    obtain ⟨k, rfl⟩ : ∃ m, k = m + 1 := ⟨k - 1, by omega⟩
    obtain ⟨hx, he, hh⟩ := hc
    · rw [impl_LoopIs.l0, if_pos (len_midI _ _ _), if_pos (by omega), if_pos (len_midI _ _ _), rd_midI, numberRun_eq k (by omega) hv hx]
      simp only [Option.bind_some]
      rw [if_pos trivial, if_pos he, next_midI pre y (by omega), app_midI pre suf y]
      exact ih (pre ++ [y]) _ b k (by omega) (by simp; omega) hh
theorem LoopIs_eq (k : Nat) {n : Int} {l : List Run} (hk : 50 < k) (hv : nvB n l = true) {w : List Int} {a : Int} (hl : 1 ≤ w.length ∧ w.length ≤ 12) (hc : Ch l a w a) : impl_LoopIs.f k n l w = some true := by
  obtain ⟨k, rfl⟩ : ∃ m, k = m + 1 := ⟨k - 1, by omega⟩
  unfold impl_LoopIs.f
  rw [impl_NetValid_eq (k + 1) n l (by omega), hv]
  simp only [Option.bind_some]
  rw [if_pos trivial, if_neg (by omega), decide_eq_false (by omega), impl_LoopIs.j0, if_neg (by simp), nw64 (x := (w.length : Int) - 1) (by omega) (by omega), if_pos (by omega), if_pos (by omega)]
  rcases List.eq_nil_or_concat w with rfl | ⟨z, y, e⟩
  · simp at hl
  · have e2 : w = z ++ [y] := by simpa using e
    obtain ⟨e3, hy⟩ := Ch.last z y a (e2 ▸ hc)
    have e4 : rd w ((w.length : Int) - 1) = y := by
      rw [e2, show (((z ++ [y]).length : Int) - 1) = (z.length : Int) by simp]
      exact rd_midI z [] y
    rw [e4, numberRun_eq k (by omega) hv hy]
    simp only [Option.bind_some]
    rw [if_pos trivial, e3]
    have := LoopIs_l0 hv w [] a a k (by omega) (by simp; omega) hc
    simpa using this
theorem nrise_bd {n : Int} {l : List Run} (hv : nvB n l = true) {x : Int} (hx : x ≠ 0 ∧ -(l.length : Int) ≤ x ∧ x ≤ l.length) : -100000 ≤ nrise l x ∧ nrise l x ≤ 100000 := by
  unfold nrise
  split
  · have := nvB_all hv (rdT_any (l := l) (x := x - 1) (by omega) (by omega)); omega
  · have := nvB_all hv (rdT_any (l := l) (x := -x - 1) (by omega) (by omega)); omega
theorem LoopError_l0 {n : Int} {l : List Run} (hv : nvB n l = true) (suf : List Int) : ∀ (pre : List Int) (a b s : Int) (k : Nat), suf.length + 2 < k → pre.length + suf.length ≤ 100 → Ch l a suf b → -100000 * (pre.length : Int) ≤ s ∧ s ≤ 100000 * (pre.length : Int) →
    impl_LoopError.l0 k l s (pre ++ suf) ((pre ++ suf).length : Int) (pre.length : Int) = some (s + wsum l suf, true) := by
  induction suf with
  | nil =>
    intro pre a b s k hk _ _ _
    obtain ⟨k, rfl⟩ : ∃ m, k = m + 1 := ⟨k - 1, by omega⟩
    simp [impl_LoopError.l0, wsum]
  | cons y suf ih =>
    intro pre a b s k hk hl hc hs
    simp only [List.length_cons] at hk hl
    obtain ⟨k, rfl⟩ : ∃ m, k = m + 1 := ⟨k - 1, by omega⟩
    obtain ⟨hx, he, hh⟩ := hc
    · have hb := nrise_bd hv hx
      rw [impl_LoopError.l0, if_pos (len_midI _ _ _), if_pos (by omega), if_pos (len_midI _ _ _), rd_midI, numberRun_eq k (by omega) hv hx]
      simp only [Option.bind_some]
      rw [nrun_f2, nw64 (x := s + nrise l y) (by omega) (by omega), next_midI pre y (by omega), app_midI pre suf y, ih (pre ++ [y]) _ b _ k (by omega) (by simp; omega) hh (by simp; omega), wsum]
      congr 2; omega
theorem LoopError_eq (k : Nat) {n : Int} {l : List Run} (hk : 60 < k) (hv : nvB n l = true) {w : List Int} {a : Int} (hl : 1 ≤ w.length ∧ w.length ≤ 12) (hc : Ch l a w a) : impl_LoopError.f k n l w = some (wsum l w, true) := by
  unfold impl_LoopError.f
  rw [LoopIs_eq k (by omega) hv hl hc]
  simp only [Option.bind_some]
  rw [if_pos trivial]
  have := LoopError_l0 hv w [] a a 0 k (by omega) (by simp; omega) hc (by simp)
  simpa using this
end Go.Proofs.Ytmcfhmflncghiaa.Pure
namespace Go.Proofs.Ytmcfhmflncghiaa.Pure
open Go.RowKit Go.Proofs.Ytmcfhmflncghiaa.Q Go.Proofs.Ytmcfhmflncghiaa.TreeW Go.Proofs.YtmcfhmflncghiaaW.PrintWords Go.Proofs.YtmcfhmflncghiaaW.PrintLast Go.Proofs.YtmcfhmflncghiaaW.PrintMore
/-- A loop of a run beside the tree. -/
theorem LoopOf_out (q : Nat) {n : Int} {l : List Run} (hq : 200 < q) (hw : wholeB n l = true) {i : Nat} (hi : i < l.length) (hm : (i : Int) ∉ ftree n l l.length) :
    ∃ w, impl_LoopOf.f q n l (i : Int) = some (((i : Int) + 1) :: w, true) ∧ Way l (ftree n l l.length) w (rdT l i).f1 (rdT l i).f0 ∧ w.length ≤ 5 := by
  have hv := (wholeB_iff.1 hw).1
  have hn := nvB_n hv
  have hVL := nvB_VL hv
  have hlt := ft_lt n l l.length
  have htl := ft_len n l l.length
  have hx : ∀ x ∈ ftree n l l.length, 0 ≤ x ∧ x < (l.length : Int) := fun x hm => hlt x hm
  have hr := hVL _ (rdT_mem hi)
  have hlk : Lk (pk l (ftree n l l.length)) (rdT l i).f1 (rdT l i).f0 := by
    refine ft_lk (by omega) hVL l.length (Nat.le_refl _) _ _ ?_
    rw [List.take_length]
    exact (Lk.run (rdT_mem hi)).symm
  obtain ⟨w, e1, e2, e3⟩ := treeR_ok (by omega) hVL (by omega) hx (by omega) ⟨hr.2.2.1, hr.2.2.2⟩ ⟨hr.1, hr.2.1⟩ hlk
  refine ⟨w, ?_, e2, e3⟩
  have et : impl_treeWay.f l (ftree n l l.length) (rd_T32 l (i : Int)).f1 (rd_T32 l (i : Int)).f0 = some w := e1
  unfold impl_LoopOf.f
  rw [TreeFirst_eq q (by omega) hw]
  simp only [Option.bind_some]
  rw [if_pos trivial, if_neg (by omega), if_neg (by omega), Contains_eq q _ (by omega) (by omega), decide_eq_false hm]
  simp only [Option.bind_some]
  rw [if_neg (by simp), if_pos (by omega), if_pos (by omega), et]
  simp only [Option.bind_some]
  rw [if_pos (by simp; omega), nw64 (x := (i : Int) + 1) (by omega) (by omega)]
  rfl
theorem LoopOf_in (q : Nat) {n : Int} {l : List Run} (hq : 200 < q) (hw : wholeB n l = true) {i : Nat} (hi : i < l.length) (hm : (i : Int) ∈ ftree n l l.length) : impl_LoopOf.f q n l (i : Int) = some ([], false) := by
  have hv := (wholeB_iff.1 hw).1
  have hn := nvB_n hv
  have htl := ft_len n l l.length
  unfold impl_LoopOf.f
  rw [TreeFirst_eq q (by omega) hw]
  simp only [Option.bind_some]
  rw [if_pos trivial, if_neg (by omega), if_neg (by omega), Contains_eq q _ (by omega) (by omega), decide_eq_true hm]
  simp only [Option.bind_some]
  rw [if_pos trivial]
/-- The misfit of a run. -/
def err (l : List Run) (h : Int → Int) (i : Nat) : Int := (rdT l i).f2 - (h (rdT l i).f1 - h (rdT l i).f0)
def errF (l : List Run) (t : List Int) (h : Int → Int) : Nat → Nat → List Int
  | 0, _ => []
  | c + 1, i => if (i : Int) ∈ t then errF l t h c (i + 1) else err l h i :: errF l t h c (i + 1)
theorem LoopErrors_l0 {n : Int} {l : List Run} (hw : wholeB n l = true) {h : Int → Int} (hp : pot h (pk l (ftree n l l.length))) (c : Nat) : ∀ (i k : Nat) (acc : List Int), l.length - i = c → i ≤ l.length → c + 250 < k → acc.length + c ≤ 100 →
    impl_LoopErrors.l0 k n l acc (l.length : Int) (i : Int) = some (acc ++ errF l (ftree n l l.length) h c i, true) := by
  have hv := (wholeB_iff.1 hw).1
  have hn := nvB_n hv
  have hlt := ft_lt n l l.length
  induction c with
  | zero =>
    intro i k acc hc hi hk _
    obtain ⟨k, rfl⟩ : ∃ m, k = m + 1 := ⟨k - 1, by omega⟩
    rw [impl_LoopErrors.l0, if_neg (by omega)]
    simp [errF]
  | succ c ih =>
    intro i k acc hc hi hk ha
    obtain ⟨k, rfl⟩ : ∃ m, k = m + 1 := ⟨k - 1, by omega⟩
    have e1 : wrap64 ((i : Int) + 1) = ((i + 1 : Nat) : Int) := by rw [nw64 (by omega) (by omega)]; omega
    rw [impl_LoopErrors.l0, if_pos (by omega)]
    by_cases hm : (i : Int) ∈ ftree n l l.length
    · rw [LoopOf_in k (by omega) hw (by omega) hm]
      simp only [Option.bind_some]
      rw [if_neg (by simp), e1, ih (i + 1) k acc (by omega) (by omega) (by omega) (by omega), errF, if_pos hm]
    · obtain ⟨w, h1, h2, h3⟩ := LoopOf_out k (by omega) hw (show i < l.length by omega) hm
      rw [h1]
      simp only [Option.bind_some]
      have hch : Ch l (rdT l i).f0 (((i : Int) + 1) :: w) (rdT l i).f0 := by
        have e : nrun l ((i : Int) + 1) = rdT l i := by unfold nrun; rw [if_pos (by omega), show (i : Int) + 1 - 1 = (i : Int) by omega]
        exact ⟨by omega, by rw [e], by rw [e]; exact h2.ch (fun k hk => hlt k hk)⟩
      rw [if_pos trivial, LoopError_eq k (by omega) hv (by simp; omega) hch]
      simp only [Option.bind_some]
      have hs := h2.sum (fun k hk => (hlt k hk).1) hp
      have e2 : wsum l (((i : Int) + 1) :: w) = err l h i := by
        rw [wsum, hs, nrise, if_pos (by omega), show (i : Int) + 1 - 1 = (i : Int) by omega]
        unfold err; omega
      rw [if_pos (by omega), e2, e1, ih (i + 1) k _ (by omega) (by omega) (by omega) (by simp; omega), errF, if_neg hm]
      simp
theorem LoopErrors_eq (k : Nat) {n : Int} {l : List Run} (hk : 300 < k) (hw : wholeB n l = true) {h : Int → Int} (hp : pot h (pk l (ftree n l l.length))) : impl_LoopErrors.f k n l = some (errF l (ftree n l l.length) h l.length 0, true) := by
  have hn := nvB_n (wholeB_iff.1 hw).1
  unfold impl_LoopErrors.f
  rw [NetWhole_eq k n l (by omega), hw]
  simp only [Option.bind_some]
  rw [if_pos trivial]
  have := LoopErrors_l0 hw hp l.length 0 k [] (by omega) (by omega) (by omega) (by simp; omega)
  simpa using this
theorem errF_len (l : List Run) (t : List Int) (h : Int → Int) : ∀ (c i : Nat), (errF l t h c i).length ≤ c
  | 0, _ => by simp [errF]
  | c + 1, i => by
    have := errF_len l t h c (i + 1)
    rw [errF]; split
    · omega
    · rw [List.length_cons]; omega
theorem errF_all {l : List Run} {t : List Int} {h : Int → Int} : ∀ (c i : Nat), (∀ x ∈ errF l t h c i, x = 0) ↔ ∀ j, i ≤ j → j < i + c → (j : Int) ∉ t → err l h j = 0
  | 0, i => by simp [errF]; intro j h1 h2; omega
  | c + 1, i => by
    have ih := errF_all (l := l) (t := t) (h := h) c (i + 1)
    rw [errF]
    split
    · next hm =>
      rw [ih]
      constructor
      · intro H j h1 h2 h3
        by_cases q : j = i
        · rw [q] at h3; exact absurd hm h3
        · exact H j (by omega) (by omega) h3
      · exact fun H j h1 h2 h3 => H j (by omega) (by omega) h3
    · next hm =>
      constructor
      · intro H j h1 h2 h3
        by_cases q : j = i
        · rw [q]; exact H _ (by simp)
        · exact ih.1 (fun x hx => H x (by simp [hx])) j (by omega) (by omega) h3
      · intro H x hx
        rcases List.mem_cons.1 hx with q | q
        · rw [q]; exact H i (by omega) (by omega) hm
        · exact ih.2 (fun j h1 h2 h3 => H j (by omega) (by omega) h3) x q
theorem Closes_l0 (suf : List Int) : ∀ (pre : List Int) (k : Nat), suf.length < k → pre.length + suf.length < 100 → impl_LoopCloses.l0 k (pre ++ suf) ((pre ++ suf).length : Int) (pre.length : Int) = some (suf.all (fun x => decide (x = 0))) := by
  induction suf with
  | nil =>
    intro pre k hk _
    obtain ⟨k, rfl⟩ : ∃ m, k = m + 1 := ⟨k - 1, by omega⟩
    simp [impl_LoopCloses.l0]
  | cons y suf ih =>
    intro pre k hk hl
    simp only [List.length_cons] at hk hl
    obtain ⟨k, rfl⟩ : ∃ m, k = m + 1 := ⟨k - 1, by omega⟩
    rw [impl_LoopCloses.l0, if_pos (len_midI _ _ _), if_pos (by omega), if_pos (len_midI _ _ _), rd_midI]
    by_cases c : y = 0
    · rw [if_pos c, next_midI pre y (by omega), app_midI pre suf y, ih (pre ++ [y]) k (by omega) (by simp; omega)]
      simp [c]
    · rw [if_neg c]; simp [c]
/-- The program's LoopCloses, at a whole net, by heights of its tree. -/
theorem LoopCloses_eq (k : Nat) {n : Int} {l : List Run} (hk : 300 < k) (hw : wholeB n l = true) {h : Int → Int} (hp : pot h (pk l (ftree n l l.length))) : impl_LoopCloses.f k n l = some ((errF l (ftree n l l.length) h l.length 0).all (fun x => decide (x = 0))) := by
  have hn := nvB_n (wholeB_iff.1 hw).1
  have hl := errF_len l (ftree n l l.length) h l.length 0
  unfold impl_LoopCloses.f
  rw [LoopErrors_eq k hk hw hp]
  simp only [Option.bind_some]
  rw [if_pos trivial]
  have := Closes_l0 (errF l (ftree n l l.length) h l.length 0) [] k (by omega) (by simp; omega)
  simpa using this
theorem pot_iff {n : Int} {l : List Run} {h : Int → Int} (hp : pot h (pk l (ftree n l l.length))) : (errF l (ftree n l l.length) h l.length 0).all (fun x => decide (x = 0)) = true ↔ pot h l := by
  rw [List.all_eq_true]
  have := errF_all (l := l) (t := ftree n l l.length) (h := h) l.length 0
  constructor
  · intro H r hr
    have H2 := this.1 (fun x hx => of_decide_eq_true (H x hx))
    obtain ⟨i, hi, rfl⟩ := List.getElem_of_mem hr
    by_cases hm : (i : Int) ∈ ftree n l l.length
    · have := hp (rdT l i) (List.mem_map.2 ⟨(i : Int), hm, rfl⟩)
      rwa [rdT_get hi] at this
    · have := H2 i (by omega) (by omega) hm
      unfold err at this
      rw [rdT_get hi] at this
      omega
  · intro H x hx
    refine decide_eq_true (this.2 (fun j _ h2 _ => ?_) x hx)
    have := H _ (rdT_mem (l := l) (k := j) (by omega))
    unfold err; omega
theorem pot_sub {n : Int} {l : List Run} {h : Int → Int} (hp : pot h l) : pot h (pk l (ftree n l l.length)) := fun r hr => hp r (ft_sub (Nat.le_refl _) r hr)
/-- A whole net with heights closes. -/
theorem LoopCloses_pot (k : Nat) {n : Int} {l : List Run} (hk : 300 < k) (hw : wholeB n l = true) {h : Int → Int} (hp : pot h l) : impl_LoopCloses.f k n l = some true := by
  rw [LoopCloses_eq k hk hw (pot_sub hp), (pot_iff (pot_sub hp)).2 hp]
end Go.Proofs.Ytmcfhmflncghiaa.Pure
namespace Go.Proofs.Ytmcfhmflncghiaa.Pure
open Go.RowKit Go.Proofs.Ytmcfhmflncghiaa.Q Go.Proofs.YtmcfhmflncghiaaW.PrintWords Go.Proofs.YtmcfhmflncghiaaW.PrintLast Go.Proofs.YtmcfhmflncghiaaW.PrintMore
/-- The runs of a ring. -/
def rgR (m : Nat) (out : List Int) (i : Nat) : Run := ⟨(i : Int), Int.tmod ((i : Int) + 1) (m : Int), rd out (i : Int), 1⟩
def ring (m : Nat) (out : List Int) (i : Nat) : List Run := (List.range i).map (rgR m out)
theorem rg_next {m i : Nat} (h : i < m) : Int.tmod ((i : Int) + 1) (m : Int) = if i + 1 = m then 0 else (i : Int) + 1 := by
  rw [show ((i : Int) + 1) = ((i + 1 : Nat) : Int) by omega, ← Int.ofNat_tmod]
  split
  · next c => rw [c, Nat.mod_self]; rfl
  · rw [Nat.mod_eq_of_lt (by omega)]
/-- The heights of a ring. -/
def hgt (out : List Int) (v : Int) : Int := (out.take v.toNat).sum
theorem hgt_step {out : List Int} {i : Nat} (h : i < out.length) : hgt out ((i : Int) + 1) = hgt out (i : Int) + rd out (i : Int) := by
  unfold hgt
  rw [show ((i : Int) + 1).toNat = i + 1 by omega, Int.toNat_natCast, List.take_add_one, List.getElem?_eq_getElem h, List.sum_append, rd_eq out i h]
  simp
theorem ring_pot {m : Nat} {out : List Int} (hl : out.length = m) (hs : out.sum = 0) : pot (hgt out) (ring m out m) := by
  intro r hr
  obtain ⟨i, hi, rfl⟩ := List.mem_map.1 hr
  have hi := List.mem_range.1 hi
  show hgt out (Int.tmod ((i : Int) + 1) (m : Int)) - hgt out (i : Int) = rd out (i : Int)
  have h1 := hgt_step (out := out) (i := i) (by omega)
  rw [rg_next hi]
  split
  · next c =>
    have h2 : hgt out ((i : Int) + 1) = 0 := by
      unfold hgt
      rw [show ((i : Int) + 1).toNat = out.length by omega, List.take_length]; exact hs
    have h3 : hgt out 0 = 0 := by unfold hgt; simp
    omega
  · omega
theorem ring_lk {m : Nat} {out : List Int} : ∀ v : Nat, v < m → Lk (ring m out m) 0 (v : Int)
  | 0, _ => .refl _
  | v + 1, h => by
    have ih := ring_lk (m := m) (out := out) v (by omega)
    have hm : rgR m out v ∈ ring m out m := List.mem_map.2 ⟨v, List.mem_range.2 (by omega), rfl⟩
    have := Lk.fwd hm (show Lk (ring m out m) 0 (rgR m out v).f0 from ih)
    have e : (rgR m out v).f1 = ((v + 1 : Nat) : Int) := by
      show Int.tmod ((v : Int) + 1) (m : Int) = _
      rw [rg_next (by omega), if_neg (by omega)]; omega
    rwa [e] at this
theorem ring_closes (k : Nat) (hk : 300 < k) {m : Nat} {out : List Int} (hl : out.length = m) (hs : out.sum = 0) (hv : nvB m (ring m out m) = true) : impl_LoopCloses.f k m (ring m out m) = some true := by
  refine LoopCloses_pot k hk (wholeB_iff.2 ⟨hv, fun v v0 v1 => ?_⟩) (ring_pot hl hs)
  obtain ⟨i, rfl⟩ : ∃ i : Nat, v = i := ⟨v.toNat, by omega⟩
  exact ring_lk i (by omega)
theorem ring_l0 {m : Nat} {out : List Int} (hm : 2 ≤ m ∧ m ≤ 6) (hl : out.length = m) (hs : out.sum = 0) (c : Nat) : ∀ (i k : Nat), m - i = c → i ≤ m → c + 320 < k → laws_FnShareRing.l0 k out (m : Int) (ring m out i) (i : Int) = some true := by
  induction c with
  | zero =>
    intro i k hc hi hk
    obtain ⟨k, rfl⟩ : ∃ j, k = j + 1 := ⟨k - 1, by omega⟩
    obtain rfl : i = m := by omega
    rw [laws_FnShareRing.l0, if_neg (by omega), impl_NetValid_eq k _ _ (by omega)]
    simp only [Option.bind_some]
    by_cases hv : nvB (i : Int) (ring i out i) = true
    · rw [if_pos hv, ring_closes k (by omega) hl hs hv]; rfl
    · rw [if_neg hv]
  | succ c ih =>
    intro i k hc hi hk
    obtain ⟨k, rfl⟩ : ∃ j, k = j + 1 := ⟨k - 1, by omega⟩
    have e1 : wrap64 ((i : Int) + 1) = (i : Int) + 1 := nw64 (by omega) (by omega)
    have hnx := ih (i + 1) k (by omega) (by omega) (by omega)
    have er : ring m out (i + 1) = ring m out i ++ [rgR m out i] := by unfold ring; rw [List.range_succ, List.map_append]; rfl
    rw [er] at hnx
    rw [laws_FnShareRing.l0, if_pos (by omega), if_neg (by omega), if_pos (by omega), if_pos (by omega), if_pos (by simp [ring]; omega), e1]
    exact hnx
theorem FnShareRing : laws_FnShareRing.Pure := by
  intro l0 _ _ hl0
  refine ⟨2003, ?_⟩
  unfold laws_FnShareRing.f
  split
  · rfl
  · obtain ⟨l, h, hd, hl6, hh6⟩ := DrawRises_ok 2003 (by omega) hl0
    rw [hd, Option.bind_some]
    dsimp only
    rw [impl_ShareRises_eq 2003 l h (by omega) (by omega), Option.bind_some, spec_ShareRises_eq 2003 l h (by omega) (by omega), Option.bind_some, if_neg (by simp)]
    have hlen := risR_len l h
    rw [sameInts_self 2003 _ (by omega) (by omega), Option.bind_some, if_pos rfl, laws_FnShareRing.j0]
    by_cases c : LV l ∧ h.length = l.length ∧ RV h
    · have hb : (risR l h).2 = true := by unfold risR; rw [if_pos c]
      obtain ⟨s1, s2, s3⟩ := ris_sum c
      rw [hb, if_neg (by simp), sumOf_eq 2002 10200000 _ (by omega) s3 (by omega) (by omega), Option.bind_some, if_pos s2]
      have hz := ris_zero c
      generalize (risR l h).1 = out at *
      have hsum : laws_sumOf.f 2002 h = some h.sum := sumOf_eq 2002 100000 h (by omega) (fun x hx => by have := c.2.2 x hx; omega) (by omega) (by omega)
      rw [hsum, Option.bind_some]
      have hj1 : laws_FnShareRing.j1 2002 out (h.length : Int) false = some true := by
        rw [laws_FnShareRing.j1, if_neg (by simp)]
        by_cases c2 : (h.length : Int) < 2
        · rw [if_pos c2, laws_FnShareRing.j2, if_pos rfl, s1]; simp
        · rw [if_neg c2, decide_eq_false (by omega), laws_FnShareRing.j2, if_neg (by simp)]
          exact ring_l0 (m := h.length) (by omega) s1 s2 h.length 0 2000 (by omega) (by omega) (by omega)
      by_cases c3 : h.sum = 0
      · rw [if_pos c3, hz c3, sameInts_self 2002 _ (by omega) (by omega), Option.bind_some]
        rw [hz c3] at hj1
        exact hj1
      · rw [if_neg c3]; exact hj1
    · have hb : risR l h = ([], false) := by unfold risR; rw [if_neg c]
      rw [hb, if_pos (by simp), if_pos (by simp), sameInts_self 2002 _ (by simp) (by simp), Option.bind_some]
end Go.Proofs.Ytmcfhmflncghiaa.Pure
