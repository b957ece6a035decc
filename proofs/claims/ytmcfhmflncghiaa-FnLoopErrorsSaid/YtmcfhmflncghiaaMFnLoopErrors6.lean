/- Part 6 of what the proof of this law rests on: the functions of the translation as plain Lean functions with their walks, and the plain laws behind. -/
import Derived.Test.YtmcfhmflncghiaaMFnLoopErrors5
namespace Go.Proofs.Ytmcfhmflncghiaa.Pure
open Go.RowKit Go.Proofs.Ytmcfhmflncghiaa.Q Go.Proofs.Ytmcfhmflncghiaa.TreeW Go.Proofs.YtmcfhmflncghiaaW.PrintWords Go.Proofs.YtmcfhmflncghiaaW.PrintLast Go.Proofs.YtmcfhmflncghiaaW.PrintMore
theorem pick_l0 {l : List Run} (suf : List Int) : ∀ (pre : List Int) (acc : List Run) (k : Nat), suf.length < k → pre.length + suf.length ≤ 100 → acc.length + suf.length ≤ 100 → (∀ x ∈ suf, 0 ≤ x ∧ x < (l.length : Int)) →
    impl_pick.l0 k l acc (pre ++ suf) ((pre ++ suf).length : Int) (pre.length : Int) = some (acc ++ pk l suf) := by
  induction suf with
  | nil =>
    intro pre acc k hk _ _ _
    obtain ⟨k, rfl⟩ : ∃ m, k = m + 1 := ⟨k - 1, by omega⟩
    simp [impl_pick.l0, pk]
  | cons y suf ih =>
    intro pre acc k hk hl ha hx
    simp only [List.length_cons] at hk hl ha
    obtain ⟨k, rfl⟩ : ∃ m, k = m + 1 := ⟨k - 1, by omega⟩
    have hy := hx y (by simp)
    rw [impl_pick.l0, if_pos (len_midI _ _ _), if_pos (by omega), if_pos (len_midI _ _ _), rd_midI, if_pos hy.1, if_pos hy.2, if_pos (by omega), next_midI pre y (by omega), app_midI pre suf y]
    have := ih (pre ++ [y]) (acc ++ [rd_T32 l y]) k (by omega) (by simp; omega) (by simp; omega) (fun x hm => hx x (by simp [hm]))
    refine this.trans ?_
    simp [pk]
theorem pick_eq (k : Nat) {l : List Run} {t : List Int} (hk : 50 < k) (ht : t.length ≤ 20) (hx : ∀ x ∈ t, 0 ≤ x ∧ x < (l.length : Int)) : impl_pick.f k l t = some (pk l t) := by
  unfold impl_pick.f
  rw [if_pos (by omega), if_pos (by omega)]
  have := pick_l0 (l := l) t [] [] k (by omega) (by simp; omega) (by simp; omega) hx
  simpa using this
theorem ft_len (n : Int) (l : List Run) : ∀ m, (ftree n l m).length ≤ m
  | 0 => by simp [ftree]
  | m + 1 => by
    have := ft_len n l m
    rw [ftree, ftStep]
    split
    · omega
    · rw [List.length_append, List.length_singleton]; omega
theorem pk_valid {n : Int} {l : List Run} (hv : nvB n l = true) {t : List Int} (ht : t.length ≤ 12) (hx : ∀ x ∈ t, 0 ≤ x ∧ x < (l.length : Int)) : nvB n (pk l t) = true := by
  have hn := nvB_n hv
  unfold nvB at hv ⊢
  rw [Bool.and_eq_true, decide_eq_true_iff, List.all_eq_true] at hv ⊢
  refine ⟨⟨hn.1, hn.2.1, by simp [pk]; exact ht⟩, fun r hr => hv.2 r (pk_sub hx r hr)⟩
theorem leastLinked_eq {n : Int} {l : List Run} (hv : nvB n l = true) : impl_leastLinked.f n l = some (leastR n l) := by
  unfold impl_leastLinked.f; rw [if_pos hv]
theorem TreeFirst_l0 {n : Int} {l : List Run} (hv : nvB n l = true) (c : Nat) : ∀ (i k : Nat), l.length - i = c → i ≤ l.length → c + 55 < k →
    impl_TreeFirst.l0 k n l (ftree n l i) l (l.length : Int) (i : Int) = some (ftree n l l.length, true) := by
  have hn := nvB_n hv
  have hVL := nvB_VL hv
  induction c with
  | zero =>
    intro i k hc hi hk
    obtain ⟨k, rfl⟩ : ∃ m, k = m + 1 := ⟨k - 1, by omega⟩
    rw [impl_TreeFirst.l0, if_neg (by omega), show i = l.length by omega]
  | succ c ih =>
    intro i k hc hi hk
    obtain ⟨k, rfl⟩ : ∃ m, k = m + 1 := ⟨k - 1, by omega⟩
    have hft := ft_len n l i
    have hlt := ft_lt n l i
    have hx : ∀ x ∈ ftree n l i, 0 ≤ x ∧ x < (l.length : Int) := fun x hm => by have := hlt x hm; omega
    have hpv := pk_valid hv (by omega) hx
    have hL := (leastR_lst (by omega) _ (nvB_VL hpv)).len
    have hr := hVL _ (rdT_mem (l := l) (k := i) (by omega))
    dsimp only [rdT] at hr
    have hnx := ih (i + 1) k (by omega) (by omega) (by omega)
    rw [ftree, ftStep] at hnx
    rw [impl_TreeFirst.l0, if_pos (by omega), if_pos (by omega), if_pos (by omega), pick_eq k (by omega) (by omega) hx]
    simp only [Option.bind_some]
    rw [leastLinked_eq hpv]
    simp only [Option.bind_some]
    rw [if_pos hr.1, if_pos (by omega), if_pos hr.2.2.1, if_pos (by omega), nw64 (x := (i : Int) + 1) (by omega) (by omega)]
    split
    · next c1 =>
      rw [if_pos c1] at hnx
      exact hnx
    · next c1 =>
      rw [if_neg c1] at hnx
      rw [if_pos (by omega)]
      exact hnx
theorem TreeFirst_eq (k : Nat) {n : Int} {l : List Run} (hk : 100 < k) (hw : wholeB n l = true) : impl_TreeFirst.f k n l = some (ftree n l l.length, true) := by
  have hv := (wholeB_iff.1 hw).1
  have hn := nvB_n hv
  unfold impl_TreeFirst.f
  rw [NetWhole_eq k n l (by omega), hw]
  simp only [Option.bind_some]
  rw [if_pos trivial]
  have := TreeFirst_l0 hv l.length 0 k (by omega) (by omega) (by omega)
  exact this
theorem Index_l0 (x : Int) (suf : List Int) : ∀ (pre : List Int) (k : Nat), suf.length < k → pre.length + suf.length ≤ 100 → ∃ v, slices_Index_int_int.l0 k (pre ++ suf) x ((pre ++ suf).length : Int) (pre.length : Int) = some v ∧ (v ≥ 0 ↔ x ∈ suf) := by
  induction suf with
  | nil =>
    intro pre k hk _
    obtain ⟨k, rfl⟩ : ∃ m, k = m + 1 := ⟨k - 1, by omega⟩
    exact ⟨-1, by simp [slices_Index_int_int.l0], by simp⟩
  | cons y suf ih =>
    intro pre k hk hl
    simp only [List.length_cons] at hk hl
    obtain ⟨k, rfl⟩ : ∃ m, k = m + 1 := ⟨k - 1, by omega⟩
    rw [slices_Index_int_int.l0, if_pos (len_midI _ _ _), if_pos (by omega), if_pos (len_midI _ _ _), rd_midI]
    by_cases c : x = y
    · rw [if_pos c]
      exact ⟨_, rfl, by simp [c]⟩
    · rw [if_neg c, next_midI pre y (by omega), app_midI pre suf y]
      obtain ⟨v, h1, h2⟩ := ih (pre ++ [y]) k (by omega) (by simp; omega)
      exact ⟨v, h1, by rw [h2]; simp [c]⟩
theorem Contains_eq (k : Nat) {t : List Int} (x : Int) (hk : 50 < k) (ht : t.length ≤ 20) : slices_Contains_int_int.f k t x = some (decide (x ∈ t)) := by
  obtain ⟨v, h1, h2⟩ := Index_l0 x t [] k (by omega) (by simp; omega)
  simp only [List.nil_append, List.length_nil] at h1
  rw [show ((0 : Nat) : Int) = 0 from rfl] at h1
  unfold slices_Contains_int_int.f slices_Index_int_int.f
  rw [h1]
  simp only [Option.bind_some]
  congr 1
  rw [decide_eq_decide]; exact h2
/-- The run of a number, in its direction. -/
def nrun (l : List Run) (x : Int) : Run := if x > 0 then rdT l (x - 1) else ⟨(rdT l (-x - 1)).f1, (rdT l (-x - 1)).f0, -(rdT l (-x - 1)).f2, (rdT l (-x - 1)).f3⟩
theorem rdT_any {l : List Run} {x : Int} (h0 : 0 ≤ x) (h1 : x < (l.length : Int)) : rdT l x ∈ l := by
  obtain ⟨i, rfl⟩ : ∃ i : Nat, x = i := ⟨x.toNat, by omega⟩
  exact rdT_mem (by omega)
theorem nvB_all {n : Int} {l : List Run} (hv : nvB n l = true) {r : Run} (hr : r ∈ l) : (0 ≤ r.f0 ∧ r.f0 < n ∧ 0 ≤ r.f1 ∧ r.f1 < n ∧ r.f0 ≠ r.f1) ∧ (-100000 ≤ r.f2 ∧ r.f2 ≤ 100000) ∧ 1 ≤ r.f3 ∧ r.f3 ≤ 9 := by
  unfold nvB at hv
  rw [Bool.and_eq_true, List.all_eq_true] at hv
  have := hv.2 r hr
  unfold rvB at this
  exact of_decide_eq_true this
theorem numberRun_eq (k : Nat) {n : Int} {l : List Run} (hk : 1 < k) (hv : nvB n l = true) {x : Int} (hx : x ≠ 0 ∧ -(l.length : Int) ≤ x ∧ x ≤ l.length) :
    impl_numberRun.f k l x = some ((nrun l x).f0, (nrun l x).f1, (nrun l x).f2, (nrun l x).f3, true) := by
  have hn := nvB_n hv
  obtain ⟨k, rfl⟩ : ∃ m, k = m + 1 := ⟨k - 1, by omega⟩
  unfold impl_numberRun.f nrun
  rw [if_neg hx.1, nw64 (x := -(l.length : Int)) (by omega) (by omega), if_neg (by omega), decide_eq_false (by omega), impl_numberRun.j0, if_neg (by simp)]
  by_cases c : x > 0
  · rw [if_pos c, if_pos c, nw64 (x := x - 1) (by omega) (by omega), if_pos (by omega), if_pos (by omega)]
  · have hr := nvB_all hv (rdT_any (l := l) (x := -x - 1) (by omega) (by omega))
    dsimp only [rdT] at hr
    rw [if_neg c, if_neg c, nw64 (x := -x) (by omega) (by omega), nw64 (x := -x - 1) (by omega) (by omega), if_pos (by omega), if_pos (by omega), nw64 (x := -(rd_T32 l (-x - 1)).f2) (by omega) (by omega)]
theorem nrun_f2 (l : List Run) (x : Int) : (nrun l x).f2 = nrise l x := by
  unfold nrun nrise; split <;> rfl
/-- A chain of numbers. -/
def Ch (l : List Run) : Int → List Int → Int → Prop
  | a, [], b => a = b
  | a, x :: w, b => (x ≠ 0 ∧ -(l.length : Int) ≤ x ∧ x ≤ l.length) ∧ (nrun l x).f0 = a ∧ Ch l (nrun l x).f1 w b
theorem Way.ch {l : List Run} {t : List Int} (ht : ∀ k ∈ t, 0 ≤ k ∧ k < (l.length : Int)) {w : List Int} {a b : Int} (h : Way l t w a b) : Ch l a w b := by
  induction h with
  | nil a => exact rfl
  | @up k w b hk _ ih =>
    have := ht k hk
    have e : nrun l (k + 1) = rdT l k := by unfold nrun; rw [if_pos (by omega), show k + 1 - 1 = k by omega]
    exact ⟨by omega, by rw [e], by rw [e]; exact ih⟩
  | @dn k w b hk _ ih =>
    have := ht k hk
    have e : nrun l (-(k + 1)) = ⟨(rdT l k).f1, (rdT l k).f0, -(rdT l k).f2, (rdT l k).f3⟩ := by unfold nrun; rw [if_neg (by omega), show -(-(k + 1)) - 1 = k by omega]
    exact ⟨by omega, by rw [e], by rw [e]; exact ih⟩
theorem Ch.last {l : List Run} {b : Int} : ∀ (z : List Int) (y a : Int), Ch l a (z ++ [y]) b → (nrun l y).f1 = b ∧ y ≠ 0 ∧ -(l.length : Int) ≤ y ∧ y ≤ l.length
  | [], _, _, h => ⟨h.2.2, h.1⟩
  | _ :: z, y, _, h => Ch.last z y _ h.2.2
theorem LoopIs_l0 {n : Int} {l : List Run} (hv : nvB n l = true) (suf : List Int) : ∀ (pre : List Int) (a b : Int) (k : Nat), suf.length + 2 < k → pre.length + suf.length ≤ 100 → Ch l a suf b → impl_LoopIs.l0 k l a (pre ++ suf) ((pre ++ suf).length : Int) (pre.length : Int) = some true := by
  induction suf with
  | nil =>
    intro pre a b k hk _ _
    obtain ⟨k, rfl⟩ : ∃ m, k = m + 1 := ⟨k - 1, by omega⟩
    simp [impl_LoopIs.l0]
  | cons y suf ih =>
    intro pre a b k hk hl hc
    simp only [List.length_cons] at hk hl
    obtain ⟨k, rfl⟩ : ∃ m, k = m + 1 := ⟨k - 1, by omega⟩
    obtain ⟨hx, he, hh⟩ := hc
    · rw [impl_LoopIs.l0, if_pos (len_midI _ _ _), if_pos (by omega), if_pos (len_midI _ _ _), rd_midI, numberRun_eq k (by omega) hv hx]
      simp only [Option.bind_some]
      rw [if_pos trivial, if_pos he, next_midI pre y (by omega), app_midI pre suf y]
      exact ih (pre ++ [y]) _ b k (by omega) (by simp; omega) hh
theorem LoopIs_eq (k : Nat) {n : Int} {l : List Run} (hk : 50 < k) (hv : nvB n l = true) {w : List Int} {a : Int} (hl : 1 ≤ w.length ∧ w.length ≤ 12) (hc : Ch l a w a) : impl_LoopIs.f k n l w = some true := by
  obtain ⟨k, rfl⟩ : ∃ m, k = m + 1 := ⟨k - 1, by omega⟩
  unfold impl_LoopIs.f
  rw [impl_NetValid_eq (k + 1) n l (by omega), hv]
  simp only [Option.bind_some]
  rw [if_pos trivial, if_neg (by omega), decide_eq_false (by omega), impl_LoopIs.j0, if_neg (by simp), nw64 (x := (w.length : Int) - 1) (by omega) (by omega), if_pos (by omega), if_pos (by omega)]
  rcases List.eq_nil_or_concat w with rfl | ⟨z, y, e⟩
  · simp at hl
  · have e2 : w = z ++ [y] := by simpa using e
    obtain ⟨e3, hy⟩ := Ch.last z y a (e2 ▸ hc)
    have e4 : rd w ((w.length : Int) - 1) = y := by
      rw [e2, show (((z ++ [y]).length : Int) - 1) = (z.length : Int) by simp]
      exact rd_midI z [] y
    rw [e4, numberRun_eq k (by omega) hv hy]
    simp only [Option.bind_some]
    rw [if_pos trivial, e3]
    have := LoopIs_l0 hv w [] a a k (by omega) (by simp; omega) hc
    simpa using this
theorem nrise_bd {n : Int} {l : List Run} (hv : nvB n l = true) {x : Int} (hx : x ≠ 0 ∧ -(l.length : Int) ≤ x ∧ x ≤ l.length) : -100000 ≤ nrise l x ∧ nrise l x ≤ 100000 := by
  unfold nrise
  split
  · have := nvB_all hv (rdT_any (l := l) (x := x - 1) (by omega) (by omega)); omega
  · have := nvB_all hv (rdT_any (l := l) (x := -x - 1) (by omega) (by omega)); omega
theorem LoopError_l0 {n : Int} {l : List Run} (hv : nvB n l = true) (suf : List Int) : ∀ (pre : List Int) (a b s : Int) (k : Nat), suf.length + 2 < k → pre.length + suf.length ≤ 100 → Ch l a suf b → -100000 * (pre.length : Int) ≤ s ∧ s ≤ 100000 * (pre.length : Int) →
    impl_LoopError.l0 k l s (pre ++ suf) ((pre ++ suf).length : Int) (pre.length : Int) = some (s + wsum l suf, true) := by
  induction suf with
  | nil =>
    intro pre a b s k hk _ _ _
    obtain ⟨k, rfl⟩ : ∃ m, k = m + 1 := ⟨k - 1, by omega⟩
    simp [impl_LoopError.l0, wsum]
  | cons y suf ih =>
    intro pre a b s k hk hl hc hs
    simp only [List.length_cons] at hk hl
    obtain ⟨k, rfl⟩ : ∃ m, k = m + 1 := ⟨k - 1, by omega⟩
    obtain ⟨hx, he, hh⟩ := hc
    · have hb := nrise_bd hv hx
      rw [impl_LoopError.l0, if_pos (len_midI _ _ _), if_pos (by omega), if_pos (len_midI _ _ _), rd_midI, numberRun_eq k (by omega) hv hx]
      simp only [Option.bind_some]
      rw [nrun_f2, nw64 (x := s + nrise l y) (by omega) (by omega), next_midI pre y (by omega), app_midI pre suf y, ih (pre ++ [y]) _ b _ k (by omega) (by simp; omega) hh (by simp; omega), wsum]
      congr 2; omega
theorem LoopError_eq (k : Nat) {n : Int} {l : List Run} (hk : 60 < k) (hv : nvB n l = true) {w : List Int} {a : Int} (hl : 1 ≤ w.length ∧ w.length ≤ 12) (hc : Ch l a w a) : impl_LoopError.f k n l w = some (wsum l w, true) := by
  unfold impl_LoopError.f
  rw [LoopIs_eq k (by omega) hv hl hc]
  simp only [Option.bind_some]
  rw [if_pos trivial]
  have := LoopError_l0 hv w [] a a 0 k (by omega) (by simp; omega) hc (by simp)
  simpa using this
end Go.Proofs.Ytmcfhmflncghiaa.Pure
namespace Go.Proofs.Ytmcfhmflncghiaa.Pure
open Go.RowKit Go.Proofs.Ytmcfhmflncghiaa.Q Go.Proofs.Ytmcfhmflncghiaa.TreeW Go.Proofs.YtmcfhmflncghiaaW.PrintWords Go.Proofs.YtmcfhmflncghiaaW.PrintLast Go.Proofs.YtmcfhmflncghiaaW.PrintMore
/-- A loop of a run beside the tree. -/
theorem LoopOf_out (q : Nat) {n : Int} {l : List Run} (hq : 200 < q) (hw : wholeB n l = true) {i : Nat} (hi : i < l.length) (hm : (i : Int) ∉ ftree n l l.length) :
    ∃ w, impl_LoopOf.f q n l (i : Int) = some (((i : Int) + 1) :: w, true) ∧ Way l (ftree n l l.length) w (rdT l i).f1 (rdT l i).f0 ∧ w.length ≤ 5 := by
  have hv := (wholeB_iff.1 hw).1
  have hn := nvB_n hv
  have hVL := nvB_VL hv
  have hlt := ft_lt n l l.length
  have htl := ft_len n l l.length
  have hx : ∀ x ∈ ftree n l l.length, 0 ≤ x ∧ x < (l.length : Int) := fun x hm => hlt x hm
  have hr := hVL _ (rdT_mem hi)
  have hlk : Lk (pk l (ftree n l l.length)) (rdT l i).f1 (rdT l i).f0 := by
    refine ft_lk (by omega) hVL l.length (Nat.le_refl _) _ _ ?_
    rw [List.take_length]
    exact (Lk.run (rdT_mem hi)).symm
  obtain ⟨w, e1, e2, e3⟩ := treeR_ok (by omega) hVL (by omega) hx (by omega) ⟨hr.2.2.1, hr.2.2.2⟩ ⟨hr.1, hr.2.1⟩ hlk
  refine ⟨w, ?_, e2, e3⟩
  have et : impl_treeWay.f l (ftree n l l.length) (rd_T32 l (i : Int)).f1 (rd_T32 l (i : Int)).f0 = some w := e1
  unfold impl_LoopOf.f
  rw [TreeFirst_eq q (by omega) hw]
  simp only [Option.bind_some]
  rw [if_pos trivial, if_neg (by omega), if_neg (by omega), Contains_eq q _ (by omega) (by omega), decide_eq_false hm]
  simp only [Option.bind_some]
  rw [if_neg (by simp), if_pos (by omega), if_pos (by omega), et]
  simp only [Option.bind_some]
  rw [if_pos (by simp; omega), nw64 (x := (i : Int) + 1) (by omega) (by omega)]
  rfl
theorem LoopOf_in (q : Nat) {n : Int} {l : List Run} (hq : 200 < q) (hw : wholeB n l = true) {i : Nat} (hi : i < l.length) (hm : (i : Int) ∈ ftree n l l.length) : impl_LoopOf.f q n l (i : Int) = some ([], false) := by
  have hv := (wholeB_iff.1 hw).1
  have hn := nvB_n hv
  have htl := ft_len n l l.length
  unfold impl_LoopOf.f
  rw [TreeFirst_eq q (by omega) hw]
  simp only [Option.bind_some]
  rw [if_pos trivial, if_neg (by omega), if_neg (by omega), Contains_eq q _ (by omega) (by omega), decide_eq_true hm]
  simp only [Option.bind_some]
  rw [if_pos trivial]
/-- The misfit of a run. -/
def err (l : List Run) (h : Int → Int) (i : Nat) : Int := (rdT l i).f2 - (h (rdT l i).f1 - h (rdT l i).f0)
def errF (l : List Run) (t : List Int) (h : Int → Int) : Nat → Nat → List Int
  | 0, _ => []
  | c + 1, i => if (i : Int) ∈ t then errF l t h c (i + 1) else err l h i :: errF l t h c (i + 1)
theorem LoopErrors_l0 {n : Int} {l : List Run} (hw : wholeB n l = true) {h : Int → Int} (hp : pot h (pk l (ftree n l l.length))) (c : Nat) : ∀ (i k : Nat) (acc : List Int), l.length - i = c → i ≤ l.length → c + 250 < k → acc.length + c ≤ 100 →
    impl_LoopErrors.l0 k n l acc (l.length : Int) (i : Int) = some (acc ++ errF l (ftree n l l.length) h c i, true) := by
  have hv := (wholeB_iff.1 hw).1
  have hn := nvB_n hv
  have hlt := ft_lt n l l.length
  induction c with
  | zero =>
    intro i k acc hc hi hk _
    obtain ⟨k, rfl⟩ : ∃ m, k = m + 1 := ⟨k - 1, by omega⟩
    rw [impl_LoopErrors.l0, if_neg (by omega)]
    simp [errF]
  | succ c ih =>
    intro i k acc hc hi hk ha
    obtain ⟨k, rfl⟩ : ∃ m, k = m + 1 := ⟨k - 1, by omega⟩
    have e1 : wrap64 ((i : Int) + 1) = ((i + 1 : Nat) : Int) := by rw [nw64 (by omega) (by omega)]; omega
    rw [impl_LoopErrors.l0, if_pos (by omega)]
    by_cases hm : (i : Int) ∈ ftree n l l.length
    · rw [LoopOf_in k (by omega) hw (by omega) hm]
      simp only [Option.bind_some]
      rw [if_neg (by simp), e1, ih (i + 1) k acc (by omega) (by omega) (by omega) (by omega), errF, if_pos hm]
    · obtain ⟨w, h1, h2, h3⟩ := LoopOf_out k (by omega) hw (show i < l.length by omega) hm
      rw [h1]
      simp only [Option.bind_some]
      have hch : Ch l (rdT l i).f0 (((i : Int) + 1) :: w) (rdT l i).f0 := by
        have e : nrun l ((i : Int) + 1) = rdT l i := by unfold nrun; rw [if_pos (by omega), show (i : Int) + 1 - 1 = (i : Int) by omega]
        exact ⟨by omega, by rw [e], by rw [e]; exact h2.ch (fun k hk => hlt k hk)⟩
      rw [if_pos trivial, LoopError_eq k (by omega) hv (by simp; omega) hch]
      simp only [Option.bind_some]
      have hs := h2.sum (fun k hk => (hlt k hk).1) hp
      have e2 : wsum l (((i : Int) + 1) :: w) = err l h i := by
        rw [wsum, hs, nrise, if_pos (by omega), show (i : Int) + 1 - 1 = (i : Int) by omega]
        unfold err; omega
      rw [if_pos (by omega), e2, e1, ih (i + 1) k _ (by omega) (by omega) (by omega) (by simp; omega), errF, if_neg hm]
      simp
theorem LoopErrors_eq (k : Nat) {n : Int} {l : List Run} (hk : 300 < k) (hw : wholeB n l = true) {h : Int → Int} (hp : pot h (pk l (ftree n l l.length))) : impl_LoopErrors.f k n l = some (errF l (ftree n l l.length) h l.length 0, true) := by
  have hn := nvB_n (wholeB_iff.1 hw).1
  unfold impl_LoopErrors.f
  rw [NetWhole_eq k n l (by omega), hw]
  simp only [Option.bind_some]
  rw [if_pos trivial]
  have := LoopErrors_l0 hw hp l.length 0 k [] (by omega) (by omega) (by omega) (by simp; omega)
  simpa using this
theorem errF_len (l : List Run) (t : List Int) (h : Int → Int) : ∀ (c i : Nat), (errF l t h c i).length ≤ c
  | 0, _ => by simp [errF]
  | c + 1, i => by
    have := errF_len l t h c (i + 1)
    rw [errF]; split
    · omega
    · rw [List.length_cons]; omega
theorem errF_all {l : List Run} {t : List Int} {h : Int → Int} : ∀ (c i : Nat), (∀ x ∈ errF l t h c i, x = 0) ↔ ∀ j, i ≤ j → j < i + c → (j : Int) ∉ t → err l h j = 0
  | 0, i => by simp [errF]; intro j h1 h2; omega
  | c + 1, i => by
    have ih := errF_all (l := l) (t := t) (h := h) c (i + 1)
    rw [errF]
    split
    · next hm =>
      rw [ih]
      constructor
      · intro H j h1 h2 h3
        by_cases q : j = i
        · rw [q] at h3; exact absurd hm h3
        · exact H j (by omega) (by omega) h3
      · exact fun H j h1 h2 h3 => H j (by omega) (by omega) h3
    · next hm =>
      constructor
      · intro H j h1 h2 h3
        by_cases q : j = i
        · rw [q]; exact H _ (by simp)
        · exact ih.1 (fun x hx => H x (by simp [hx])) j (by omega) (by omega) h3
      · intro H x hx
        rcases List.mem_cons.1 hx with q | q
        · rw [q]; exact H i (by omega) (by omega) hm
        · exact ih.2 (fun j h1 h2 h3 => H j (by omega) (by omega) h3) x q
theorem Closes_l0 (suf : List Int) : ∀ (pre : List Int) (k : Nat), suf.length < k → pre.length + suf.length < 100 → impl_LoopCloses.l0 k (pre ++ suf) ((pre ++ suf).length : Int) (pre.length : Int) = some (suf.all (fun x => decide (x = 0))) := by
  induction suf with
  | nil =>
    intro pre k hk _
    obtain ⟨k, rfl⟩ : ∃ m, k = m + 1 := ⟨k - 1, by omega⟩
    simp [impl_LoopCloses.l0]
  | cons y suf ih =>
    intro pre k hk hl
    simp only [List.length_cons] at hk hl
    obtain ⟨k, rfl⟩ : ∃ m, k = m + 1 := ⟨k - 1, by omega⟩
    rw [impl_LoopCloses.l0, if_pos (len_midI _ _ _), if_pos (by omega), if_pos (len_midI _ _ _), rd_midI]
    by_cases c : y = 0
    · rw [if_pos c, next_midI pre y (by omega), app_midI pre suf y, ih (pre ++ [y]) k (by omega) (by simp; omega)]
      simp [c]
    · rw [if_neg c]; simp [c]
/-- The program's LoopCloses, at a whole net, by heights of its tree. -/
theorem LoopCloses_eq (k : Nat) {n : Int} {l : List Run} (hk : 300 < k) (hw : wholeB n l = true) {h : Int → Int} (hp : pot h (pk l (ftree n l l.length))) : impl_LoopCloses.f k n l = some ((errF l (ftree n l l.length) h l.length 0).all (fun x => decide (x = 0))) := by
  have hn := nvB_n (wholeB_iff.1 hw).1
  have hl := errF_len l (ftree n l l.length) h l.length 0
  unfold impl_LoopCloses.f
  rw [LoopErrors_eq k hk hw hp]
  simp only [Option.bind_some]
  rw [if_pos trivial]
  have := Closes_l0 (errF l (ftree n l l.length) h l.length 0) [] k (by omega) (by simp; omega)
  simpa using this
theorem pot_iff {n : Int} {l : List Run} {h : Int → Int} (hp : pot h (pk l (ftree n l l.length))) : (errF l (ftree n l l.length) h l.length 0).all (fun x => decide (x = 0)) = true ↔ pot h l := by
  rw [List.all_eq_true]
  have := errF_all (l := l) (t := ftree n l l.length) (h := h) l.length 0
  constructor
  · intro H r hr
    have H2 := this.1 (fun x hx => of_decide_eq_true (H x hx))
    obtain ⟨i, hi, rfl⟩ := List.getElem_of_mem hr
    by_cases hm : (i : Int) ∈ ftree n l l.length
    · have := hp (rdT l i) (List.mem_map.2 ⟨(i : Int), hm, rfl⟩)
      rwa [rdT_get hi] at this
    · have := H2 i (by omega) (by omega) hm
      unfold err at this
      rw [rdT_get hi] at this
      omega
  · intro H x hx
    refine decide_eq_true (this.2 (fun j _ h2 _ => ?_) x hx)
    have := H _ (rdT_mem (l := l) (k := j) (by omega))
    unfold err; omega
end Go.Proofs.Ytmcfhmflncghiaa.Pure
namespace Go.Proofs.Ytmcfhmflncghiaa.Pure
open Go.RowKit Go.Proofs.Ytmcfhmflncghiaa.Q Go.Proofs.Ytmcfhmflncghiaa.TreeW Go.Proofs.YtmcfhmflncghiaaW.PrintWords Go.Proofs.YtmcfhmflncghiaaW.PrintLast Go.Proofs.YtmcfhmflncghiaaW.PrintMore
/-- A tree has heights for any rises. -/
theorem ft_potG {n : Int} (hn : 0 ≤ n) {l : List Run} (hv : VL n l) (g : Int → Int) : ∀ m, m ≤ l.length → ∃ h : Int → Int, ∀ k ∈ ftree n l m, h (rdT l k).f1 - h (rdT l k).f0 = g k
  | 0, _ => ⟨fun _ => 0, by simp [ftree]⟩
  | m + 1, hm => by
    obtain ⟨h, hh⟩ := ft_potG hn hv g m (by omega)
    have hV := ft_VL (m := m) hv (by omega)
    have L := leastR_lst hn _ hV
    rw [ftree, ftStep]
    split
    · exact ⟨h, hh⟩
    · next c =>
      generalize hd : g m - (h (rdT l m).f1 - h (rdT l m).f0) = d
      have hcl : ∀ k ∈ ftree n l m, rd (leastR n (pk l (ftree n l m))) (rdT l k).f0 = rd (leastR n (pk l (ftree n l m))) (rdT l k).f1 := fun k hk => L.cl _ (List.mem_map.2 ⟨k, hk, rfl⟩)
      generalize leastR n (pk l (ftree n l m)) = o at c hcl
      refine ⟨fun v => if rd o v = rd o (rdT l m).f1 then h v + d else h v, fun k hk => ?_⟩
      rcases List.mem_append.1 hk with q | q
      · have e := hcl k q
        have := hh k q
        dsimp only
        rw [e]
        split <;> omega
      · rw [List.mem_singleton.1 q]
        dsimp only
        rw [if_pos rfl, if_neg c]
        omega
/-- The runs of a tree without one. -/
def wo (l : List Run) (t : List Int) (e : Int) : List Run := pk l (t.filter fun x => decide (x ≠ e))
theorem wo_mem {l : List Run} {t : List Int} {e : Int} {r : Run} : r ∈ wo l t e ↔ ∃ x ∈ t, x ≠ e ∧ rdT l x = r := by
  unfold wo pk
  rw [List.mem_map]
  constructor
  · rintro ⟨x, hx, rfl⟩
    have := List.mem_filter.1 hx
    exact ⟨x, this.1, of_decide_eq_true this.2, rfl⟩
  · rintro ⟨x, h1, h2, rfl⟩
    exact ⟨x, List.mem_filter.2 ⟨h1, decide_eq_true h2⟩, rfl⟩
/-- Each run is a bridge. -/
def Fo (l : List Run) (t : List Int) : Prop := ∀ x ∈ t, ¬ Lk (wo l t x) (rdT l x).f0 (rdT l x).f1
theorem ft_fo {n : Int} (hn : 0 ≤ n) {l : List Run} (hv : VL n l) {m : Nat} (hm : m ≤ l.length) : Fo l (ftree n l m) := by
  intro x hx hk
  obtain ⟨h, hh⟩ := ft_potG hn hv (fun k => if k = x then 1 else 0) m hm
  have := hk.const h fun r hr => by
    obtain ⟨y, h1, h2, rfl⟩ := wo_mem.1 hr
    have := hh y h1
    rw [if_neg h2] at this
    omega
  have e := hh x hx
  rw [if_pos rfl] at e
  omega
/-- Run x joins a with b. -/
def Inc (l : List Run) (x a b : Int) : Prop := ((rdT l x).f0 = a ∧ (rdT l x).f1 = b) ∨ ((rdT l x).f1 = a ∧ (rdT l x).f0 = b)
theorem Inc.lk {l : List Run} {E : List Run} {x a b : Int} (h : Inc l x a b) (hm : rdT l x ∈ E) : Lk E a b := by
  rcases h with ⟨rfl, rfl⟩ | ⟨rfl, rfl⟩
  · exact Lk.run hm
  · exact (Lk.run hm).symm
theorem Inc.no {l : List Run} {t : List Int} (hf : Fo l t) {x a b : Int} (h : Inc l x a b) (hx : x ∈ t) : ¬ Lk (wo l t x) b a := by
  rcases h with ⟨rfl, rfl⟩ | ⟨rfl, rfl⟩
  · exact fun q => hf x hx q.symm
  · exact fun q => hf x hx q
/-- The last departure. -/
theorem depart {l : List Run} {t : List Int} {e a b : Int} (h : Lk (wo l t e) a b) : a = b ∨ ∃ x ∈ t, x ≠ e ∧ ∃ c, Inc l x a c ∧ Lk (wo l t x) c b := by
  induction h with
  | refl => exact .inl rfl
  | @fwd r hm h ih =>
    obtain ⟨y, y1, y2, rfl⟩ := wo_mem.1 hm
    rcases ih with q | ⟨x, x1, x2, c, x3, x4⟩
    · exact .inr ⟨y, y1, y2, _, .inl ⟨q.symm, rfl⟩, .refl _⟩
    · by_cases z : y = x
      · subst z
        rcases x3 with ⟨u1, u2⟩ | ⟨u1, u2⟩
        · exact .inr ⟨y, y1, y2, _, .inl ⟨u1, rfl⟩, .refl _⟩
        · exact .inl u1.symm
      · exact .inr ⟨x, x1, x2, c, x3, .fwd (wo_mem.2 ⟨y, y1, z, rfl⟩) x4⟩
  | @bwd r hm h ih =>
    obtain ⟨y, y1, y2, rfl⟩ := wo_mem.1 hm
    rcases ih with q | ⟨x, x1, x2, c, x3, x4⟩
    · exact .inr ⟨y, y1, y2, _, .inr ⟨q.symm, rfl⟩, .refl _⟩
    · by_cases z : y = x
      · subst z
        rcases x3 with ⟨u1, u2⟩ | ⟨u1, u2⟩
        · exact .inl u1.symm
        · exact .inr ⟨y, y1, y2, _, .inr ⟨u1, rfl⟩, .refl _⟩
      · exact .inr ⟨x, x1, x2, c, x3, .bwd (wo_mem.2 ⟨y, y1, z, rfl⟩) x4⟩
/-- How many of the nodes. -/
noncomputable def cntP (n : Int) (P : Int → Prop) : Nat := ((List.range n.toNat).filter fun (i : Nat) => @decide (P i) (Classical.propDecidable _)).length
theorem filt_le (P Q : Nat → Bool) : ∀ n, (∀ i, i < n → P i = true → Q i = true) → ((List.range n).filter P).length ≤ ((List.range n).filter Q).length
  | 0, _ => by simp
  | n + 1, h => by
    have ih := filt_le P Q n (fun i hi => h i (by omega))
    have := h n (by omega)
    rw [List.range_succ, List.filter_append, List.filter_append, List.length_append, List.length_append]
    simp only [List.filter_cons, List.filter_nil]
    cases hp : P n <;> cases hq : Q n <;> simp [hp, hq] at this ⊢ <;> omega
theorem filt_lt (P Q : Nat → Bool) (z : Nat) : ∀ n, z < n → (∀ i, i < n → P i = true → Q i = true) → P z = false → Q z = true → ((List.range n).filter P).length < ((List.range n).filter Q).length
  | 0, h, _, _, _ => by omega
  | n + 1, hz, h, h0, h1 => by
    rw [List.range_succ, List.filter_append, List.filter_append, List.length_append, List.length_append]
    simp only [List.filter_cons, List.filter_nil]
    by_cases q : z = n
    · subst q
      have := filt_le P Q z (fun i hi => h i (by omega))
      simp [h0, h1]; omega
    · have ih := filt_lt P Q z n (by omega) (fun i hi => h i (by omega)) h0 h1
      have := h n (by omega)
      cases hp : P n <;> cases hq : Q n <;> simp [hp, hq] at this ⊢ <;> omega
theorem cntP_lt {n : Int} {P Q : Int → Prop} (h : ∀ v, 0 ≤ v → v < n → P v → Q v) {z : Int} (z0 : 0 ≤ z ∧ z < n) (h0 : ¬ P z) (h1 : Q z) : cntP n P < cntP n Q := by
  obtain ⟨z, rfl⟩ : ∃ i : Nat, z = i := ⟨z.toNat, by omega⟩
  refine filt_lt _ _ z _ (by omega) (fun i hi e => ?_) (by simpa using h0) (by simpa using h1)
  simp only [decide_eq_true_eq] at e ⊢
  exact h i (by omega) (by omega) e
theorem cntP_le (n : Int) (P : Int → Prop) : cntP n P ≤ n.toNat := by
  unfold cntP
  have := List.length_filter_le (fun (i : Nat) => @decide (P i) (Classical.propDecidable _)) (List.range n.toNat)
  rwa [List.length_range] at this
/-- How many nodes are reached without the last run. -/
noncomputable def mu (n : Int) (l : List Run) (t : List Int) (a e : Int) : Nat := cntP n (Lk (wo l t e) a)
/-- The last run ends at a. -/
def La (l : List Run) (t : List Int) (e a : Int) : Prop := e ∈ t → (rdT l e).f0 = a ∨ (rdT l e).f1 = a
theorem mu_lt {n : Int} {l : List Run} {t : List Int} (hf : Fo l t) {e a x b : Int} (ha : 0 ≤ a ∧ a < n) (hl : La l t e a) (hx : x ∈ t) (hxe : x ≠ e) (hi : Inc l x a b) : mu n l t b x < mu n l t a e := by
  have hno := hi.no hf hx
  refine cntP_lt (fun v v0 v1 h => ?_) ha hno (.refl a)
  refine Lk.trans (hi.lk (wo_mem.2 ⟨x, hx, hxe, rfl⟩)) ?_
  clear hi v0 v1
  induction h with
  | refl => exact .refl _
  | @fwd r hm h ih =>
    obtain ⟨y, y1, y2, rfl⟩ := wo_mem.1 hm
    by_cases z : y = e
    · exfalso
      subst z
      rcases hl y1 with q | q
      · exact hno (q ▸ h)
      · exact hno (q ▸ h.fwd hm)
    · exact .fwd (wo_mem.2 ⟨y, y1, z, rfl⟩) ih
  | @bwd r hm h ih =>
    obtain ⟨y, y1, y2, rfl⟩ := wo_mem.1 hm
    by_cases z : y = e
    · exfalso
      subst z
      rcases hl y1 with q | q
      · exact hno (q ▸ h.bwd hm)
      · exact hno (q ▸ h)
    · exact .bwd (wo_mem.2 ⟨y, y1, z, rfl⟩) ih
theorem Inc.la {l : List Run} {t : List Int} {x a b : Int} (h : Inc l x a b) : La l t x b := by
  intro _
  rcases h with ⟨rfl, rfl⟩ | ⟨rfl, rfl⟩
  · exact .inr rfl
  · exact .inl rfl
theorem mu_pos {n : Int} {l : List Run} {t : List Int} {a e : Int} (ha : 0 ≤ a ∧ a < n) : 0 < mu n l t a e := by
  have : cntP n (fun _ => False) < mu n l t a e := cntP_lt (fun _ _ _ h => h.elim) ha (fun h => h) (.refl a)
  omega
theorem wayR {n : Int} {l : List Run} {t : List Int} (hll : l.length ≤ 12) (htl : t.length ≤ 5) (hv : VL n l) (hne : ∀ r ∈ l, r.f0 ≠ r.f1) (hx : ∀ x ∈ t, 0 ≤ x ∧ x < (l.length : Int)) (hf : Fo l t) (goal : Int) : ∀ (d : Nat) (a e : Int) (k : Nat), d ≤ 10 → 0 ≤ a ∧ a < n → La l t e a → mu n l t a e ≤ d → 25 * d + 5 < k →
    ∃ w b, spec_l13Way.f k l t a goal e = some (w, b) ∧ (b = true → Way l t w a goal ∧ w.length + 1 ≤ d) ∧ (Lk (wo l t e) a goal → b = true) := by
  intro d
  induction d with
  | zero =>
    intro a e k _ ha _ hm _
    have := mu_pos (l := l) (t := t) (e := e) ha
    omega
  | succ d ih =>
    intro a e k hd ha hla hm hk
    obtain ⟨k, rfl⟩ : ∃ m, k = m + 1 := ⟨k - 1, by omega⟩
    rw [spec_l13Way.f]
    by_cases c : a = goal
    · rw [if_pos c]
      exact ⟨[], true, rfl, fun _ => ⟨c ▸ .nil a, by simp⟩, fun _ => rfl⟩
    · rw [if_neg c]
      have loop : ∀ (suf pre : List Int) (k : Nat), pre ++ suf = t → 25 * d + 5 + 3 * suf.length + 1 < k →
          ∃ w b, spec_l13Way.l0 k l t a goal e (pre.length : Int) = some (w, b) ∧ (b = true → Way l t w a goal ∧ w.length + 1 ≤ d + 1) ∧ ((∃ x ∈ suf, x ≠ e ∧ ∃ c, Inc l x a c ∧ Lk (wo l t x) c goal) → b = true) := by
        intro suf
        induction suf with
        | nil =>
          intro pre k he hk
          obtain ⟨k, rfl⟩ : ∃ m, k = m + 1 := ⟨k - 1, by omega⟩
          rw [List.append_nil] at he
          rw [spec_l13Way.l0, he, if_neg (by omega)]
          exact ⟨[], false, rfl, by simp, by simp⟩
        | cons y suf ihs =>
          intro pre k he hk
          simp only [List.length_cons] at hk
          obtain ⟨k, rfl⟩ : ∃ m, k = m + 3 := ⟨k - 3, by omega⟩
          have hlen : pre.length + (suf.length + 1) = t.length := by rw [← he]; simp
          have hrd : rd t (pre.length : Int) = y := by rw [← he]; exact rd_midI pre suf y
          have hy : y ∈ t := by rw [← he]; simp
          have hy2 := hx y hy
          have hnx : wrap64 ((pre.length : Int) + 1) = ((pre ++ [y]).length : Int) := by rw [nw64 (by omega) (by omega)]; simp
          have ihn := fun k hk => ihs (pre ++ [y]) k (by rw [← he]; simp) hk
          have hyl := hx y hy
          have hm1 : rdT l y ∈ l := rdT_any hyl.1 hyl.2
          have hb := hv _ hm1
          have hne1 := hne _ hm1
          have skip : ∀ k, 25 * d + 5 + 3 * suf.length + 1 < k → (∀ c, y ≠ e → Inc l y a c → ¬ Lk (wo l t y) c goal) → ∃ w b, spec_l13Way.l0 k l t a goal e ((pre ++ [y]).length : Int) = some (w, b) ∧ (b = true → Way l t w a goal ∧ w.length + 1 ≤ d + 1) ∧ ((∃ x ∈ y :: suf, x ≠ e ∧ ∃ c, Inc l x a c ∧ Lk (wo l t x) c goal) → b = true) := by
            intro k hk hno
            obtain ⟨w, b, e1, e2, e3⟩ := ihn k hk
            refine ⟨w, b, e1, e2, ?_⟩
            rintro ⟨x, x1, x2, c, x3, x4⟩
            rcases List.mem_cons.1 x1 with rfl | q
            · exact absurd x4 (hno c x2 x3)
            · exact e3 ⟨x, q, x2, c, x3, x4⟩
          have go : ∀ (num nx : Int), y ≠ e → (∀ c, Inc l y a c → c = nx) → Inc l y a nx → (∀ w b, Way l t w nx b → Way l t (num :: w) a b) → ∃ w b, spec_l13Way.j2 (k + 1) l t a goal e (pre.length : Int) num nx false = some (w, b) ∧ (b = true → Way l t w a goal ∧ w.length + 1 ≤ d + 1) ∧ ((∃ x ∈ y :: suf, x ≠ e ∧ ∃ c, Inc l x a c ∧ Lk (wo l t x) c goal) → b = true) := by
            intro num nx hye hu hi hway
            have hnr : 0 ≤ nx ∧ nx < n := by rcases hi with ⟨_, q⟩ | ⟨_, q⟩ <;> rw [← q] <;> exact ⟨by omega, by omega⟩
            have hmu := mu_lt hf ha hla hy hye hi
            obtain ⟨w, b, e1, e2, e3⟩ := ih nx y k (by omega) hnr hi.la (by omega) (by omega)
            rw [spec_l13Way.j2, if_neg (by simp), if_pos (by omega), if_pos (by omega), hrd, e1]
            simp only [Option.bind_some]
            cases b with
            | true =>
              obtain ⟨w1, w2⟩ := e2 rfl
              rw [if_pos rfl, if_pos (by simp; omega)]
              exact ⟨_, _, rfl, fun _ => ⟨hway w goal w1, by simp; omega⟩, fun _ => rfl⟩
            | false =>
              rw [if_neg (by simp), hnx]
              exact skip k (by omega) (fun c _ h1 h2 => by
                rw [hu c h1] at h2
                have := e3 h2
                simp at this)
          rw [spec_l13Way.l0, if_pos (by omega), if_pos (by omega), hrd, hnx]
          by_cases c1 : y = e
          · rw [if_pos c1]
            exact skip (k + 2) (by omega) (fun c h => absurd c1 h)
          · rw [if_neg c1, if_pos hyl.1, if_pos hyl.2]
            by_cases c2 : (rd_T32 l y).f1 = a
            · rw [if_pos c2, spec_l13Way.j1, if_neg (show ¬ (rd_T32 l y).f0 = a by rw [← c2]; exact hne1)]
              have c2' : (rd_T32 l y).f1 = a := c2
              rw [c2', show ((a != a) = false) by simp, nw64 (x := y + 1) (by omega) (by omega), nw64 (x := -(y + 1)) (by omega) (by omega)]
              refine go _ _ c1 (fun c h => ?_) (.inr ⟨c2, rfl⟩) (fun w b h => ?_)
              · rcases h with ⟨q1, _⟩ | ⟨_, q2⟩
                · exact absurd (q1.trans c2.symm) hne1
                · exact q2.symm
              · rw [← c2]; exact .dn hy h
            · rw [if_neg c2, spec_l13Way.j1]
              by_cases c3 : (rd_T32 l y).f0 = a
              · rw [if_pos c3, nw64 (x := y + 1) (by omega) (by omega)]
                refine go _ _ c1 (fun c h => ?_) (.inl ⟨c3, rfl⟩) (fun w b h => ?_)
                · rcases h with ⟨_, q2⟩ | ⟨q1, _⟩
                  · exact q2.symm
                  · exact absurd q1 c2
                · rw [← c3]; exact .up hy h
              · rw [if_neg c3, show ((rd_T32 l y).f1 != a) = true by simpa using c2, spec_l13Way.j2, if_pos rfl, hnx]
                refine skip k (by omega) (fun c _ h => ?_)
                rcases h with ⟨q1, _⟩ | ⟨q1, _⟩
                · exact absurd q1 c3
                · exact absurd q1 c2
      obtain ⟨w, b, e1, e2, e3⟩ := loop t [] k (by simp) (by omega)
      refine ⟨w, b, e1, e2, fun h => e3 ?_⟩
      rcases depart h with q | q
      · exact absurd q c
      · exact q
end Go.Proofs.Ytmcfhmflncghiaa.Pure
namespace Go.Proofs.Ytmcfhmflncghiaa.Pure
open Go.RowKit Go.Proofs.Ytmcfhmflncghiaa.Q Go.Proofs.YtmcfhmflncghiaaW.PrintWords Go.Proofs.YtmcfhmflncghiaaW.PrintLast Go.Proofs.YtmcfhmflncghiaaW.PrintMore
theorem mn_min (a b : Int) : mn a b = min a b := by unfold mn; split <;> omega
theorem nx64 {i : Nat} (h : i < 1000) : wrap64 ((i : Int) + 1) = ((i + 1 : Nat) : Int) := by rw [nw64 (by omega) (by omega)]; omega
theorem Linked_l2 {n : Int} {l : List Run} (hv : VL n l) (hl : l.length ≤ 12) (j : Int) (c : Nat) : ∀ (i k : Nat) (o : List Int), l.length - i = c → i ≤ l.length → (o.length : Int) = n →
    spec_l11Linked.l2 (k + c + 1) n l o j (i : Int) = spec_l11Linked.l1 k n l (rnd (l.drop i) o) (wrap64 (j + 1)) ∧ ((rnd (l.drop i) o).length : Int) = n := by
  induction c with
  | zero =>
    intro i k o hc hi ho
    rw [spec_l11Linked.l2, if_neg (by omega), show i = l.length by omega, List.drop_length]
    exact ⟨rfl, ho⟩
  | succ c ih =>
    intro i k o hc hi ho
    have hr := hv _ (rdT_mem (l := l) (k := i) (by omega))
    have e := ih (i + 1) k (stp o (rdT l i)) (by omega) (by omega) (by simp [stp]; exact ho)
    have ed : l.drop i = rdT l i :: l.drop (i + 1) := by rw [List.drop_eq_getElem_cons (by omega), rdT_get (by omega)]
    rw [ed]
    show spec_l11Linked.l2 ((k + c + 1) + 1) n l o j (i : Int) = spec_l11Linked.l1 k n l (rnd (l.drop (i + 1)) (stp o (rdT l i))) (wrap64 (j + 1)) ∧ ((rnd (l.drop (i + 1)) (stp o (rdT l i))).length : Int) = n
    refine ⟨?_, e.2⟩
    rw [← e.1, spec_l11Linked.l2, if_pos (by omega), if_pos (by omega)]
    dsimp only [rdT] at hr
    rw [if_pos hr.1, if_pos (by omega), if_pos hr.2.2.1, if_pos (by omega), mn_min, nx64 (by omega)]
    rfl
theorem Linked_l1 {n : Int} {l : List Run} (hn : 0 ≤ n ∧ n ≤ 6) (hv : VL n l) (hl : l.length ≤ 12) (c : Nat) : ∀ (j k : Nat), n.toNat - j = c → j ≤ n.toNat → 14 * c < k → ((rnds l j (iota n)).length : Int) = n →
    spec_l11Linked.l1 k n l (rnds l j (iota n)) (j : Int) = some (leastR n l) := by
  induction c with
  | zero =>
    intro j k hc hj hk _
    obtain ⟨k, rfl⟩ : ∃ m, k = m + 1 := ⟨k - 1, by omega⟩
    rw [spec_l11Linked.l1, if_neg (by omega), show j = n.toNat by omega, rnds_least hn.1 hv]
  | succ c ih =>
    intro j k hc hj hk hlen
    obtain ⟨k, rfl⟩ : ∃ m, k = m + (l.length - 0) + 1 + 1 := ⟨k - (l.length - 0) - 2, by omega⟩
    have e := Linked_l2 hv hl (j : Int) (l.length - 0) 0 k (rnds l j (iota n)) rfl (by omega) hlen
    rw [List.drop_zero] at e
    rw [spec_l11Linked.l1, if_pos (by omega), show (0 : Int) = ((0 : Nat) : Int) from rfl, e.1, nx64 (by omega)]
    exact ih (j + 1) k (by omega) (by omega) (by omega) e.2
theorem iota_snoc (i : Nat) : iota (i : Int) ++ [(i : Int)] = iota ((i + 1 : Nat) : Int) := by
  unfold iota; rw [Int.toNat_natCast, Int.toNat_natCast, List.range_succ, List.map_append]; rfl
theorem Linked_l0 {n : Int} {l : List Run} (hn : 0 ≤ n ∧ n ≤ 6) (hv : VL n l) (hl : l.length ≤ 12) (c : Nat) : ∀ (i k : Nat), n.toNat - i = c → i ≤ n.toNat → c + 90 < k →
    spec_l11Linked.l0 k n l (iota (i : Int)) (i : Int) = some (leastR n l) := by
  induction c with
  | zero =>
    intro i k hc hi hk
    obtain ⟨k, rfl⟩ : ∃ m, k = m + 1 := ⟨k - 1, by omega⟩
    have ei : (i : Int) = n := by omega
    rw [spec_l11Linked.l0, if_neg (by omega), ei]
    exact Linked_l1 hn hv hl n.toNat 0 k (by omega) (by omega) (by omega) (iota_len n hn.1)
  | succ c ih =>
    intro i k hc hi hk
    obtain ⟨k, rfl⟩ : ∃ m, k = m + 1 := ⟨k - 1, by omega⟩
    have hlen := iota_len (i : Int) (by omega)
    rw [spec_l11Linked.l0, if_pos (by omega), if_pos (by omega), nx64 (by omega), iota_snoc]
    exact ih (i + 1) k (by omega) (by omega) (by omega)
theorem Linked_eq (k : Nat) {n : Int} {l : List Run} (hk : 100 < k) (hn : 0 ≤ n ∧ n ≤ 6) (hv : VL n l) (hl : l.length ≤ 12) : spec_l11Linked.f k n l = some (leastR n l) := by
  unfold spec_l11Linked.f
  exact Linked_l0 hn hv hl n.toNat 0 k (by omega) (by omega) (by omega)
theorem sWhole_l0 (c : Nat) : ∀ (o : List Int) (i k : Nat), o.length - i = c → i ≤ o.length → o.length ≤ 100 → c < k → 0 < o.length → spec_NetWhole.l0 k o (i : Int) = some ((o.drop i).all (fun x => decide (x = 0))) := by
  induction c with
  | zero =>
    intro o i k hc hi _ hk h0
    obtain ⟨k, rfl⟩ : ∃ m, k = m + 1 := ⟨k - 1, by omega⟩
    rw [spec_NetWhole.l0, if_neg (by omega), show i = o.length by omega, List.drop_length, decide_eq_true (by omega)]; rfl
  | succ c ih =>
    intro o i k hc hi hl hk h0
    obtain ⟨k, rfl⟩ : ∃ m, k = m + 1 := ⟨k - 1, by omega⟩
    rw [spec_NetWhole.l0, if_pos (by omega), if_pos (by omega), rd_eq o i (by omega), List.drop_eq_getElem_cons (by omega), List.all_cons]
    by_cases q : o[i]'(by omega) = 0
    · rw [if_pos q, nx64 (by omega), ih o (i + 1) k (by omega) (by omega) hl (by omega) h0, decide_eq_true q, Bool.true_and]
    · rw [if_neg q, decide_eq_false q, Bool.false_and]
theorem spec_NetWhole_eq (k : Nat) (n : Int) (l : List Run) (hk : 150 < k) : spec_NetWhole.f k n l = some (wholeB n l) := by
  unfold spec_NetWhole.f spec_NetLinked.f wholeB
  rw [spec_NetValid_eq k n l (by omega)]
  simp only [Option.bind_some]
  by_cases hv : nvB n l = true
  · have hnn := nvB_n hv
    have hL := (leastR_lst (by omega) l (nvB_VL hv)).len
    rw [if_pos hv, Linked_eq k (by omega) (by omega) (nvB_VL hv) hnn.2.2]
    simp only [Option.bind_some]
    have := sWhole_l0 (leastR n l).length (leastR n l) 0 k (by omega) (by omega) (by omega) (by omega) (by omega)
    rw [List.drop_zero] at this
    rw [hv, Bool.true_and]
    exact this
  · obtain ⟨k, rfl⟩ : ∃ m, k = m + 1 := ⟨k - 1, by omega⟩
    rw [if_neg hv, Bool.eq_false_iff.2 hv, Bool.false_and]
    simp [spec_NetWhole.l0]
theorem Some_l0 {l : List Run} {t : List Int} (ht : t.length ≤ 20) (hx : ∀ x ∈ t, 0 ≤ x ∧ x < (l.length : Int)) (c : Nat) : ∀ (acc : List Run) (i k : Nat), t.length - i = c → i ≤ t.length → c < k → acc.length ≤ 100 + i →
    spec_l12Some.l0 k l t acc (i : Int) = some (acc ++ pk l (t.drop i)) := by
  induction c with
  | zero =>
    intro acc i k hc hi hk _
    obtain ⟨k, rfl⟩ : ∃ m, k = m + 1 := ⟨k - 1, by omega⟩
    rw [spec_l12Some.l0, if_neg (by omega), show i = t.length by omega, List.drop_length]
    simp [pk]
  | succ c ih =>
    intro acc i k hc hi hk ha
    obtain ⟨k, rfl⟩ : ∃ m, k = m + 1 := ⟨k - 1, by omega⟩
    have hy := hx _ (List.getElem_mem (l := t) (show i < t.length by omega))
    rw [spec_l12Some.l0, if_pos (by omega), if_pos (by omega), rd_eq t i (by omega), if_pos hy.1, if_pos hy.2, if_pos (by omega), nx64 (by omega), List.drop_eq_getElem_cons (by omega)]
    refine (ih _ (i + 1) k (by omega) (by omega) (by omega) (by simp; omega)).trans ?_
    rw [List.append_assoc]; rfl
theorem Some_eq (k : Nat) {l : List Run} {t : List Int} (hk : 30 < k) (ht : t.length ≤ 20) (hx : ∀ x ∈ t, 0 ≤ x ∧ x < (l.length : Int)) : spec_l12Some.f k l t = some (pk l t) := by
  unfold spec_l12Some.f
  have := Some_l0 ht hx t.length [] 0 k (by omega) (by omega) (by omega) (by simp)
  simpa using this
theorem sTreeFirst_l0 {n : Int} {l : List Run} (hv : nvB n l = true) (c : Nat) : ∀ (i k : Nat), l.length - i = c → i ≤ l.length → c + 120 < k →
    spec_TreeFirst.l0 k n l (ftree n l i) (i : Int) = some (ftree n l l.length, true) := by
  have hn := nvB_n hv
  have hVL := nvB_VL hv
  induction c with
  | zero =>
    intro i k hc hi hk
    obtain ⟨k, rfl⟩ : ∃ m, k = m + 1 := ⟨k - 1, by omega⟩
    rw [spec_TreeFirst.l0, if_neg (by omega), show i = l.length by omega]
  | succ c ih =>
    intro i k hc hi hk
    obtain ⟨k, rfl⟩ : ∃ m, k = m + 1 := ⟨k - 1, by omega⟩
    have hft := ft_len n l i
    have hlt := ft_lt n l i
    have hx : ∀ x ∈ ftree n l i, 0 ≤ x ∧ x < (l.length : Int) := fun x hm => by have := hlt x hm; omega
    have hpv := pk_valid hv (by omega) hx
    have hL := (leastR_lst (by omega) _ (nvB_VL hpv)).len
    have hr := hVL _ (rdT_mem (l := l) (k := i) (by omega))
    dsimp only [rdT] at hr
    have hnx := ih (i + 1) k (by omega) (by omega) (by omega)
    rw [ftree, ftStep] at hnx
    rw [spec_TreeFirst.l0, if_pos (by omega), Some_eq k (by omega) (by omega) hx]
    simp only [Option.bind_some]
    rw [Linked_eq k (by omega) (by omega) (nvB_VL hpv) (nvB_n hpv).2.2]
    simp only [Option.bind_some]
    rw [if_pos (by omega), if_pos hr.1, if_pos (by omega), if_pos hr.2.2.1, if_pos (by omega), nx64 (by omega)]
    split
    · next c1 =>
      rw [if_pos c1] at hnx
      exact hnx
    · next c1 =>
      rw [if_neg c1] at hnx
      rw [if_pos (by omega)]
      exact hnx
theorem spec_TreeFirst_eq (k : Nat) {n : Int} {l : List Run} (hk : 200 < k) (hw : wholeB n l = true) : spec_TreeFirst.f k n l = some (ftree n l l.length, true) := by
  have hv := (wholeB_iff.1 hw).1
  have hn := nvB_n hv
  unfold spec_TreeFirst.f
  simp only [Option.bind_some]
  rw [spec_NetWhole_eq k n l (by omega), hw]
  simp only [Option.bind_some]
  rw [if_pos trivial]
  exact sTreeFirst_l0 hv l.length 0 k (by omega) (by omega) (by omega)
theorem Has_l0 {t : List Int} (ht : t.length ≤ 20) (x : Int) (c : Nat) : ∀ (i k : Nat), t.length - i = c → i ≤ t.length → c < k → spec_l13Has.l0 k t x (i : Int) = some (decide (x ∈ t.drop i)) := by
  induction c with
  | zero =>
    intro i k hc hi hk
    obtain ⟨k, rfl⟩ : ∃ m, k = m + 1 := ⟨k - 1, by omega⟩
    rw [spec_l13Has.l0, if_neg (by omega), show i = t.length by omega, List.drop_length]
    simp
  | succ c ih =>
    intro i k hc hi hk
    obtain ⟨k, rfl⟩ : ∃ m, k = m + 1 := ⟨k - 1, by omega⟩
    rw [spec_l13Has.l0, if_pos (by omega), if_pos (by omega), rd_eq t i (by omega), List.drop_eq_getElem_cons (by omega)]
    by_cases q : t[i]'(by omega) = x
    · rw [if_pos q]; simp [q]
    · rw [if_neg q, nx64 (by omega), ih (i + 1) k (by omega) (by omega) (by omega)]
      congr 1; rw [decide_eq_decide, List.mem_cons]
      exact ⟨.inr, fun h => h.resolve_left fun e => q e.symm⟩
theorem Has_eq (k : Nat) {t : List Int} (x : Int) (hk : 30 < k) (ht : t.length ≤ 20) : spec_l13Has.f k t x = some (decide (x ∈ t)) := by
  unfold spec_l13Has.f
  exact Has_l0 ht x t.length 0 k (by omega) (by omega) (by omega)
theorem sError_l0 {n : Int} {l : List Run} (hv : nvB n l = true) (suf : List Int) : ∀ (pre : List Int) (a b s : Int) (k : Nat), suf.length + 2 < k → pre.length + suf.length ≤ 100 → Ch l a suf b → -100000 * (pre.length : Int) ≤ s ∧ s ≤ 100000 * (pre.length : Int) →
    spec_l13Error.l0 k l (pre ++ suf) s (pre.length : Int) = some (s + wsum l suf) := by
  have hn := nvB_n hv
  induction suf with
  | nil =>
    intro pre a b s k hk _ _ _
    obtain ⟨k, rfl⟩ : ∃ m, k = m + 1 := ⟨k - 1, by omega⟩
    simp [spec_l13Error.l0, wsum]
  | cons y suf ih =>
    intro pre a b s k hk hl hc hs
    simp only [List.length_cons] at hk hl
    obtain ⟨k, rfl⟩ : ∃ m, k = m + 1 := ⟨k - 1, by omega⟩
    obtain ⟨hx, he, hh⟩ := hc
    have hb := nrise_bd hv hx
    have hnx := ih (pre ++ [y]) _ b (s + nrise l y) k (by omega) (by simp; omega) hh (by simp; omega)
    rw [spec_l13Error.l0, if_pos (len_midI _ _ _), if_pos (by omega), rd_midI, next_midI pre y (by omega), app_midI pre suf y]
    have fin : s + nrise l y + wsum l suf = s + wsum l (y :: suf) := by rw [wsum]; omega
    rw [fin] at hnx
    by_cases c : y > 0
    · have en : nrise l y = (rd_T32 l (y - 1)).f2 := by unfold nrise; rw [if_pos c]
      rw [en] at hnx hb
      rw [if_pos c, nw64 (x := y - 1) (by omega) (by omega), if_pos (by omega), if_pos (by omega), nw64 (by omega) (by omega)]
      exact hnx
    · have en : nrise l y = -(rd_T32 l (-y - 1)).f2 := by unfold nrise; rw [if_neg c]
      rw [en] at hnx hb
      rw [if_neg c, nw64 (x := -y) (by omega) (by omega), nw64 (x := -y - 1) (by omega) (by omega), if_pos (by omega), if_pos (by omega), nw64 (by omega) (by omega)]
      exact hnx
theorem sError_eq (k : Nat) {n : Int} {l : List Run} (hk : 60 < k) (hv : nvB n l = true) {w : List Int} {a b : Int} (hl : w.length ≤ 12) (hc : Ch l a w b) : spec_l13Error.f k l w = some (wsum l w) := by
  unfold spec_l13Error.f
  have := sError_l0 hv w [] a b 0 k (by omega) (by simp; omega) hc (by simp)
  simpa using this
theorem sLoopOf_out (q : Nat) {n : Int} {l : List Run} (hq : 300 < q) (hw : wholeB n l = true) {i : Nat} (hi : i < l.length) (hm : (i : Int) ∉ ftree n l l.length) :
    ∃ w, spec_LoopOf.f q n l (i : Int) = some (((i : Int) + 1) :: w, true) ∧ Way l (ftree n l l.length) w (rdT l i).f1 (rdT l i).f0 ∧ w.length ≤ 5 := by
  have hv := (wholeB_iff.1 hw).1
  have hn := nvB_n hv
  have hVL := nvB_VL hv
  have hlt := ft_lt n l l.length
  have htl := ft_len n l l.length
  have hx : ∀ x ∈ ftree n l l.length, 0 ≤ x ∧ x < (l.length : Int) := fun x hm => hlt x hm
  have hr := hVL _ (rdT_mem hi)
  have hsz : (ftree n l l.length).length ≤ 5 := by
    have h1 := ft_parts (by omega) hVL l.length (Nat.le_refl _)
    have h2 : parts (leastR n (pk l (ftree n l l.length))) = 1 := parts_whole (by omega) (ft_VL (m := l.length) hVL (Nat.le_refl _)) fun v v0 v1 => by
      refine ft_lk (by omega) hVL l.length (Nat.le_refl _) _ _ ?_
      rw [List.take_length]
      exact (wholeB_iff.1 hw).2 v v0 v1
    omega
  have hlk : Lk (pk l (ftree n l l.length)) (rdT l i).f1 (rdT l i).f0 := by
    refine ft_lk (by omega) hVL l.length (Nat.le_refl _) _ _ ?_
    rw [List.take_length]
    exact (Lk.run (rdT_mem hi)).symm
  have hwo : wo l (ftree n l l.length) (-1) = pk l (ftree n l l.length) := by
    unfold wo
    rw [List.filter_eq_self.2 (fun x hm => decide_eq_true (by have := hlt x hm; omega))]
  have hmu : mu n l (ftree n l l.length) (rdT l i).f1 (-1) ≤ 6 := Nat.le_trans (cntP_le n _) (by omega)
  obtain ⟨w, b, e1, e2, e3⟩ := wayR hn.2.2 hsz hVL (fun r hr => (nvB_all hv hr).1.2.2.2.2) hx (ft_fo (by omega) hVL (Nat.le_refl _)) (rdT l i).f0 6 (rdT l i).f1 (-1) q (by omega) ⟨hr.2.2.1, hr.2.2.2⟩ (fun hm => absurd (hx _ hm).1 (by omega)) hmu (by omega)
  have hb := e3 (hwo ▸ hlk)
  subst hb
  obtain ⟨w1, w2⟩ := e2 rfl
  refine ⟨w, ?_, w1, by omega⟩
  have et : spec_l13Way.f q l (ftree n l l.length) (rd_T32 l (i : Int)).f1 (rd_T32 l (i : Int)).f0 (-1) = some (w, true) := e1
  unfold spec_LoopOf.f
  rw [spec_TreeFirst_eq q (by omega) hw]
  simp only [Option.bind_some]
  rw [if_pos trivial, n6In_eq, nw64 (x := (l.length : Int) - 1) (by omega) (by omega), decide_eq_true (by omega)]
  simp only [Option.bind_some]
  rw [if_pos trivial, Has_eq q _ (by omega) (by omega), decide_eq_false hm]
  simp only [Option.bind_some]
  rw [if_neg (by simp), if_pos (by omega), if_pos (by omega), et]
  simp only [Option.bind_some]
  rw [if_pos (by simp; omega), nw64 (x := (i : Int) + 1) (by omega) (by omega)]
  rfl
theorem sLoopOf_in (q : Nat) {n : Int} {l : List Run} (hq : 300 < q) (hw : wholeB n l = true) {i : Nat} (hi : i < l.length) (hm : (i : Int) ∈ ftree n l l.length) : spec_LoopOf.f q n l (i : Int) = some ([], false) := by
  have hv := (wholeB_iff.1 hw).1
  have hn := nvB_n hv
  have htl := ft_len n l l.length
  unfold spec_LoopOf.f
  rw [spec_TreeFirst_eq q (by omega) hw]
  simp only [Option.bind_some]
  rw [if_pos trivial, n6In_eq, nw64 (x := (l.length : Int) - 1) (by omega) (by omega), decide_eq_true (by omega)]
  simp only [Option.bind_some]
  rw [if_pos trivial, Has_eq q _ (by omega) (by omega), decide_eq_true hm]
  simp only [Option.bind_some]
  rw [if_pos trivial]
theorem sLoopErrors_l0 {n : Int} {l : List Run} (hw : wholeB n l = true) {h : Int → Int} (hp : pot h (pk l (ftree n l l.length))) (c : Nat) : ∀ (i k : Nat) (acc : List Int), l.length - i = c → i ≤ l.length → c + 350 < k → acc.length + c ≤ 100 →
    spec_LoopErrors.l0 k n l acc (i : Int) = some (acc ++ errF l (ftree n l l.length) h c i, true) := by
  have hv := (wholeB_iff.1 hw).1
  have hn := nvB_n hv
  have hlt := ft_lt n l l.length
  induction c with
  | zero =>
    intro i k acc hc hi hk _
    obtain ⟨k, rfl⟩ : ∃ m, k = m + 1 := ⟨k - 1, by omega⟩
    rw [spec_LoopErrors.l0, if_neg (by omega)]
    simp [errF]
  | succ c ih =>
    intro i k acc hc hi hk ha
    obtain ⟨k, rfl⟩ : ∃ m, k = m + 1 := ⟨k - 1, by omega⟩
    rw [spec_LoopErrors.l0, if_pos (by omega)]
    by_cases hm : (i : Int) ∈ ftree n l l.length
    · rw [sLoopOf_in k (by omega) hw (by omega) hm]
      simp only [Option.bind_some]
      rw [if_neg (by simp), nx64 (by omega), ih (i + 1) k acc (by omega) (by omega) (by omega) (by omega), errF, if_pos hm]
    · obtain ⟨w, h1, h2, h3⟩ := sLoopOf_out k (by omega) hw (show i < l.length by omega) hm
      rw [h1]
      simp only [Option.bind_some]
      have hch : Ch l (rdT l i).f0 (((i : Int) + 1) :: w) (rdT l i).f0 := by
        have e : nrun l ((i : Int) + 1) = rdT l i := by unfold nrun; rw [if_pos (by omega), show (i : Int) + 1 - 1 = (i : Int) by omega]
        exact ⟨by omega, by rw [e], by rw [e]; exact h2.ch (fun k hk => hlt k hk)⟩
      rw [if_pos trivial, sError_eq k (by omega) hv (by simp; omega) hch]
      simp only [Option.bind_some]
      have hs := h2.sum (fun k hk => (hlt k hk).1) hp
      have e2 : wsum l (((i : Int) + 1) :: w) = err l h i := by
        rw [wsum, hs, nrise, if_pos (by omega), show (i : Int) + 1 - 1 = (i : Int) by omega]
        unfold err; omega
      rw [if_pos (by omega), e2, nx64 (by omega), ih (i + 1) k _ (by omega) (by omega) (by omega) (by simp; omega), errF, if_neg hm]
      simp
theorem spec_LoopErrors_eq (k : Nat) {n : Int} {l : List Run} (hk : 400 < k) (hw : wholeB n l = true) {h : Int → Int} (hp : pot h (pk l (ftree n l l.length))) : spec_LoopErrors.f k n l = some (errF l (ftree n l l.length) h l.length 0, true) := by
  have hn := nvB_n (wholeB_iff.1 hw).1
  unfold spec_LoopErrors.f
  simp only [Option.bind_some]
  rw [spec_NetWhole_eq k n l (by omega), hw]
  simp only [Option.bind_some]
  rw [if_pos trivial]
  have := sLoopErrors_l0 hw hp l.length 0 k [] (by omega) (by omega) (by omega) (by simp; omega)
  simpa using this
theorem spec_LoopErrors_none (k : Nat) {n : Int} {l : List Run} (hk : 400 < k) (hw : wholeB n l = false) : spec_LoopErrors.f k n l = some ([], false) := by
  unfold spec_LoopErrors.f
  simp only [Option.bind_some]
  rw [spec_NetWhole_eq k n l (by omega), hw]
  simp
theorem impl_LoopErrors_none (k : Nat) {n : Int} {l : List Run} (hk : 400 < k) (hw : wholeB n l = false) : impl_LoopErrors.f k n l = some ([], false) := by
  unfold impl_LoopErrors.f
  rw [NetWhole_eq k n l (by omega), hw]
  simp
end Go.Proofs.Ytmcfhmflncghiaa.Pure
namespace Go.Proofs.Ytmcfhmflncghiaa.Pure
open Go.RowKit Go.Proofs.Ytmcfhmflncghiaa.Q Go.Proofs.YtmcfhmflncghiaaW.PrintWords Go.Proofs.YtmcfhmflncghiaaW.PrintLast Go.Proofs.YtmcfhmflncghiaaW.PrintMore
theorem countb_le : ∀ (o o' : List Bool), o.length = o'.length → (∀ i : Nat, (h : i < o.length) → (h' : i < o'.length) → o[i] = true → o'[i] = true) → o'.count false ≤ o.count false
  | [], [], _, _ => Nat.le_refl _
  | x :: o, y :: o', hl, h => by
    have ih := countb_le o o' (by simpa using hl) (fun i h1 h2 e => by have := h (i + 1) (by simp; omega) (by simp; omega) (by simpa using e); simpa using this)
    have h0 := h 0 (by simp) (by simp)
    simp only [List.count_cons, List.getElem_cons_zero] at h0 ⊢
    cases x <;> cases y <;> simp at h0 ⊢ <;> omega
theorem countb_lt : ∀ (o o' : List Bool), o.length = o'.length → (∀ i : Nat, (h : i < o.length) → (h' : i < o'.length) → o[i] = true → o'[i] = true) → (j : Nat) → (h : j < o.length) → (h' : j < o'.length) → o[j] = false → o'[j] = true → o'.count false < o.count false
  | [], _, _, _, j, h, _, _, _ => by simp at h
  | x :: o, [], hl, _, _, _, _, _, _ => by simp at hl
  | x :: o, y :: o', hl, h, j, hj, hj', hn, he => by
    have hs : ∀ i : Nat, (h : i < o.length) → (h' : i < o'.length) → o[i] = true → o'[i] = true := fun i h1 h2 e => by have := h (i + 1) (by simp; omega) (by simp; omega) (by simpa using e); simpa using this
    have h0 := h 0 (by simp) (by simp)
    simp only [List.count_cons, List.getElem_cons_zero] at h0 ⊢
    cases j with
    | zero =>
      have ih := countb_le o o' (by simpa using hl) hs
      simp only [List.getElem_cons_zero] at hn he
      simp [hn, he]; omega
    | succ j =>
      have ih := countb_lt o o' (by simpa using hl) hs j (by simpa using hj) (by simpa using hj') (by simpa using hn) (by simpa using he)
      cases x <;> cases y <;> simp at h0 ⊢ <;> omega
theorem rdOf_eq (o : List Bool) (i : Nat) (h : i < o.length) : rdOf false o (i : Int) = o[i] := by
  unfold rdOf; simp [List.getD, h]
/-- Heights so far: of the known nodes those of h. -/
structure Hv (n : Int) (h : Int → Int) (x : List Int) (s : List Bool) : Prop where
  lx : (x.length : Int) = n
  ls : (s.length : Int) = n
  s0 : rdOf false s 0 = true
  val : ∀ v, 0 ≤ v → v < n → rdOf false s v = true → rd x v = h v - h 0
  bd : ∀ v, 0 ≤ v → v < n → -(100000 * (n - 1 - (s.count false : Int))) ≤ rd x v ∧ rd x v ≤ 100000 * (n - 1 - (s.count false : Int))
structure Ok (n : Int) (h : Int → Int) (r : Run) : Prop where
  a0 : 0 ≤ r.f0
  a1 : r.f0 < n
  b0 : 0 ≤ r.f1
  b1 : r.f1 < n
  lo : -100000 ≤ r.f2
  hi : r.f2 ≤ 100000
  p : h r.f1 - h r.f0 = r.f2
structure Hs (n : Int) (h : Int → Int) (rs : List Run) (s : List Bool) (x' : List Int) (s' : List Bool) : Prop where
  hv : Hv n h x' s'
  grow : ∀ v, 0 ≤ v → v < n → rdOf false s v = true → rdOf false s' v = true
  cl : ∀ r ∈ rs, rdOf false s r.f0 = true ∨ rdOf false s r.f1 = true → rdOf false s' r.f0 = true ∧ rdOf false s' r.f1 = true
theorem hset {n : Int} (hn : n ≤ 6) {h : Int → Int} {x : List Int} {s : List Bool} (H : Hv n h x s) {a b y : Int} (hb : 0 ≤ b ∧ b < n) (hk : rdOf false s b = false) (hy : y = h b - h 0) (ha : rd x a - 100000 ≤ y ∧ y ≤ rd x a + 100000) (ha0 : 0 ≤ a ∧ a < n) : Hv n h (x.set b.toNat y) (s.set b.toNat true) := by
  have lx := H.lx; have ls := H.ls
  have hc := count_rdOf s b hb.1 (by omega) hk
  have sx := fun v v0 (v1 : v < n) => rd_set x b v y hb.1 v0 (show v < (x.length : Int) by omega)
  have ss := fun v v0 (v1 : v < n) => rdOf_set s b v true hb.1 v0 (show v < (s.length : Int) by omega)
  refine ⟨by rw [List.length_set]; exact lx, by rw [List.length_set]; exact ls, ?_, fun v v0 v1 e => ?_, fun v v0 v1 => ?_⟩
  · rw [ss 0 (by omega) (by omega)]; split; rfl; exact H.s0
  · rw [ss v v0 v1] at e
    rw [sx v v0 v1]
    split
    · next q => rw [q]; exact hy
    · next q => rw [if_neg q] at e; exact H.val v v0 v1 e
  · have hbd := H.bd a ha0.1 ha0.2
    have hbv := H.bd v v0 v1
    rw [sx v v0 v1]
    split <;> omega
theorem hl1 {n : Int} (hn : n ≤ 6) {h : Int → Int} {l : List Run} {t : List Int} {X I : Int} (suf : List Run) : ∀ (pre : List Run) (x : List Int) (s : List Bool) (k : Nat), pre.length + suf.length ≤ 100 → (∀ r ∈ suf, Ok n h r) → Hv n h x s →
    ∃ x' s', impl_TreeHeights.l1 (k + 2 * suf.length + 1) l t x s X I (pre ++ suf) ((pre ++ suf).length : Int) (pre.length : Int) = impl_TreeHeights.l0 k l t x' s' X (wrap64 (I + 1)) ∧ Hs n h suf s x' s' := by
  induction suf with
  | nil =>
    intro pre x s k _ _ H
    refine ⟨x, s, ?_, H, fun _ _ _ e => e, by simp⟩
    rw [List.length_nil, Nat.mul_zero, Nat.add_zero, impl_TreeHeights.l1, if_neg (by simp)]
  | cons y suf ih =>
    intro pre x s k hl hr H
    simp only [List.length_cons] at hl
    have hy := hr y (by simp)
    have a0 := hy.a0; have a1 := hy.a1; have b0 := hy.b0; have b1 := hy.b1; have lo := hy.lo; have hi := hy.hi; have hp := hy.p
    have lx := H.lx; have ls := H.ls
    have ihn := fun x s H => ih (pre ++ [y]) x s k (by simp; omega) (fun r hm => hr r (by simp [hm])) H
    have fin : ∀ (x1 : List Int) (s1 : List Bool), Hv n h x1 s1 → (∀ v, 0 ≤ v → v < n → rdOf false s v = true → rdOf false s1 v = true) → (rdOf false s y.f0 = true ∨ rdOf false s y.f1 = true → rdOf false s1 y.f0 = true ∧ rdOf false s1 y.f1 = true) →
        impl_TreeHeights.l1 (k + 2 * (y :: suf).length + 1) l t x s X I (pre ++ y :: suf) ((pre ++ y :: suf).length : Int) (pre.length : Int) = impl_TreeHeights.l1 (k + 2 * suf.length + 1) l t x1 s1 X I ((pre ++ [y]) ++ suf) (((pre ++ [y]) ++ suf).length : Int) ((pre ++ [y]).length : Int) →
        ∃ x' s', impl_TreeHeights.l1 (k + 2 * (y :: suf).length + 1) l t x s X I (pre ++ y :: suf) ((pre ++ y :: suf).length : Int) (pre.length : Int) = impl_TreeHeights.l0 k l t x' s' X (wrap64 (I + 1)) ∧ Hs n h (y :: suf) s x' s' := by
      intro x1 s1 H1 hg hc e
      obtain ⟨x', s', e2, hs⟩ := ihn x1 s1 H1
      refine ⟨x', s', e.trans e2, hs.hv, fun v v0 v1 q => hs.grow v v0 v1 (hg v v0 v1 q), fun r hm q => ?_⟩
      rcases List.mem_cons.1 hm with z | z
      · rw [z] at q ⊢
        have := hc q
        exact ⟨hs.grow _ a0 a1 this.1, hs.grow _ b0 b1 this.2⟩
      · have hz := hr r hm
        exact hs.cl r z (q.imp (hg _ hz.a0 hz.a1) (hg _ hz.b0 hz.b1))
    have hbd0 := H.bd y.f0 a0 a1
    have hbd1 := H.bd y.f1 b0 b1
    have ss1 := fun v v0 (v1 : v < n) => rdOf_set s y.f1 v true b0 v0 (show v < (s.length : Int) by omega)
    have ss0 := fun v v0 (v1 : v < n) => rdOf_set s y.f0 v true a0 v0 (show v < (s.length : Int) by omega)
    have ef : k + 2 * (y :: suf).length + 1 = (k + 2 * suf.length + 1) + 1 + 1 := by rw [List.length_cons]; omega
    have en := next_midR pre y (by omega)
    have ea := app_midR pre suf y
    by_cases c0 : rdOf false s y.f0 = true
    · by_cases c1 : rdOf false s y.f1 = true
      · refine fin x s H (fun _ _ _ e => e) (fun _ => ⟨c0, c1⟩) ?_
        rw [ef, impl_TreeHeights.l1, if_pos (len_midR _ _ _), if_pos (by omega), if_pos (len_midR _ _ _), rd_midR, if_pos a0, if_pos (by omega), if_pos c0, if_pos b0, if_pos (by omega), c1, impl_TreeHeights.j2, if_neg (by simp), if_pos b0, if_pos (by omega), if_pos c1, if_pos a0, if_pos (by omega), if_pos c0, en, ← ea]
      · have c1' : rdOf false s y.f1 = false := Bool.eq_false_iff.2 c1
        have v0 := H.val y.f0 a0 a1 c0
        have ew : wrap64 (rd x y.f0 + y.f2) = rd x y.f0 + y.f2 := nw64 (by omega) (by omega)
        refine fin (x.set y.f1.toNat (rd x y.f0 + y.f2)) (s.set y.f1.toNat true) (hset hn H (a := y.f0) ⟨b0, b1⟩ c1' (by omega) (by omega) ⟨a0, a1⟩) (fun v v0 v1 e => by rw [ss1 v v0 v1]; split; rfl; exact e) (fun _ => ⟨by rw [ss1 _ a0 a1]; split; rfl; exact c0, by rw [ss1 _ b0 b1, if_pos rfl]⟩) ?_
        rw [ef, impl_TreeHeights.l1, if_pos (len_midR _ _ _), if_pos (by omega), if_pos (len_midR _ _ _), rd_midR, if_pos a0, if_pos (by omega), if_pos c0, if_pos b0, if_pos (by omega), c1', impl_TreeHeights.j2, if_pos (by simp), if_pos a0, if_pos (by omega), if_pos b0, if_pos (by omega), if_pos (by omega), ew, en, ← ea]
    · have c0' : rdOf false s y.f0 = false := Bool.eq_false_iff.2 c0
      by_cases c1 : rdOf false s y.f1 = true
      · have v1 := H.val y.f1 b0 b1 c1
        have ew : wrap64 (rd x y.f1 - y.f2) = rd x y.f1 - y.f2 := nw64 (by omega) (by omega)
        refine fin (x.set y.f0.toNat (rd x y.f1 - y.f2)) (s.set y.f0.toNat true) (hset hn H (a := y.f1) ⟨a0, a1⟩ c0' (by omega) (by omega) ⟨b0, b1⟩) (fun v v0 v1 e => by rw [ss0 v v0 v1]; split; rfl; exact e) (fun _ => ⟨by rw [ss0 _ a0 a1, if_pos rfl], by rw [ss0 _ b0 b1]; split; rfl; exact c1⟩) ?_
        rw [ef, impl_TreeHeights.l1, if_pos (len_midR _ _ _), if_pos (by omega), if_pos (len_midR _ _ _), rd_midR, if_pos a0, if_pos (by omega), if_neg c0, impl_TreeHeights.j2, if_neg (by simp), if_pos b0, if_pos (by omega), if_pos c1, if_pos a0, if_pos (by omega), if_neg c0, if_pos (by omega), if_pos (by omega), ew, en, ← ea]
      · refine fin x s H (fun _ _ _ e => e) (fun q => by rcases q with q | q; exact absurd q c0; exact absurd q c1) ?_
        rw [ef, impl_TreeHeights.l1, if_pos (len_midR _ _ _), if_pos (by omega), if_pos (len_midR _ _ _), rd_midR, if_pos a0, if_pos (by omega), if_neg c0, impl_TreeHeights.j2, if_neg (by simp), if_pos b0, if_pos (by omega), if_neg c1, en, ← ea]
theorem hround {n : Int} {h : Int → Int} {p : List Run} (hv : VL n p) (hw : ∀ v, 0 ≤ v → v < n → Lk p 0 v) {s s' : List Bool} {x' : List Int} (hls : (s.length : Int) = n) (hs0 : rdOf false s 0 = true) (H : Hs n h p s x' s') :
    (∀ v, 0 ≤ v → v < n → rdOf false s' v = true) ∨ s'.count false < s.count false := by
  have ls' := H.hv.ls
  by_cases q : ∀ v, 0 ≤ v → v < n → rdOf false s' v = true → rdOf false s v = true
  · left
    intro v v0 v1
    have hc : ∀ r ∈ p, (rdOf false s r.f0 = true) = (rdOf false s r.f1 = true) := fun r hr => by
      have hb := hv r hr
      exact propext ⟨fun e => q _ hb.2.2.1 hb.2.2.2 (H.cl r hr (.inl e)).2, fun e => q _ hb.1 hb.2.1 (H.cl r hr (.inr e)).1⟩
    exact H.grow v v0 v1 (((hw v v0 v1).const (fun u => rdOf false s u = true) hc).mp hs0)
  · right
    have : ∃ v, 0 ≤ v ∧ v < n ∧ rdOf false s' v = true ∧ rdOf false s v ≠ true := by
      refine Classical.byContradiction fun w => q fun v h0 h1 e => Classical.byContradiction fun e' => w ⟨v, h0, h1, e, e'⟩
    obtain ⟨v, v0, v1, e, e'⟩ := this
    obtain ⟨j, rfl⟩ : ∃ j : Nat, v = j := ⟨v.toNat, by omega⟩
    refine countb_lt s s' (by omega) (fun i h1 h2 ei => ?_) j (by omega) (by omega) ?_ ?_
    · have := H.grow i (by omega) (by omega) (by rw [rdOf_eq s i h1]; exact ei)
      rwa [rdOf_eq s' i h2] at this
    · rw [rdOf_eq s j (by omega)] at e'; exact Bool.eq_false_iff.2 e'
    · rwa [rdOf_eq s' j (by omega)] at e
theorem hl0' {n : Int} (hn : 1 ≤ n ∧ n ≤ 6) {h : Int → Int} {l : List Run} {t : List Int} (ht : t.length ≤ 12) (hx : ∀ k ∈ t, 0 ≤ k ∧ k < (l.length : Int)) (hok : ∀ r ∈ pk l t, Ok n h r) (hw : ∀ v, 0 ≤ v → v < n → Lk (pk l t) 0 v) {X : Nat} (hX : X ≤ 12) (c : Nat) : ∀ (i : Nat) (x : List Int) (s : List Bool) (K : Nat), X - i = c → i ≤ X → 60 + 26 * c < K → Hv n h x s →
    ∃ x' s', impl_TreeHeights.l0 K l t x s (X : Int) (i : Int) = some (x', true) ∧ Hv n h x' s' ∧ ((∀ v, 0 ≤ v → v < n → rdOf false s' v = true) ∨ s'.count false + c ≤ s.count false) := by
  have hlp : (pk l t).length = t.length := by simp [pk]
  induction c with
  | zero =>
    intro i x s K hc hi hK H
    obtain ⟨K, rfl⟩ : ∃ m, K = m + 1 := ⟨K - 1, by omega⟩
    refine ⟨x, s, ?_, H, .inr (by omega)⟩
    rw [impl_TreeHeights.l0, if_neg (by omega)]
  | succ c ih =>
    intro i x s K hc hi hK H
    obtain ⟨K, rfl⟩ : ∃ m, K = m + 2 * (pk l t).length + 1 + 1 := ⟨K - 2 * (pk l t).length - 2, by omega⟩
    obtain ⟨x1, s1, e1, H1⟩ := hl1 hn.2 (h := h) (l := l) (t := t) (X := (X : Int)) (I := (i : Int)) (pk l t) [] x s K (by rw [hlp]; simp; omega) hok H
    simp only [List.nil_append, List.length_nil] at e1
    rw [show ((0 : Nat) : Int) = 0 from rfl] at e1
    have hi2 : wrap64 ((i : Int) + 1) = ((i + 1 : Nat) : Int) := by rw [nw64 (by omega) (by omega)]; omega
    have hK2 : 60 + 26 * c < K := by omega
    obtain ⟨x2, s2, e2, H2, hp2⟩ := ih (i + 1) x1 s1 K (by omega) (by omega) hK2 H1.hv
    refine ⟨x2, s2, ?_, H2, ?_⟩
    · rw [impl_TreeHeights.l0, if_pos (by omega), pick_eq _ (by omega) (by omega) hx]
      simp only [Option.bind_some]
      rw [e1, hi2]
      exact e2
    · rcases hround (fun r hr => ⟨(hok r hr).a0, (hok r hr).a1, (hok r hr).b0, (hok r hr).b1⟩) hw H.ls H.s0 H1 with q | q
      · rcases hp2 with z | z
        · exact .inl z
        · -- all were known already
          left
          have hz : s1.count false = 0 := by
            rw [List.count_eq_zero]
            intro hm
            obtain ⟨j, hj, e⟩ := List.getElem_of_mem hm
            have := q j (by omega) (by have := H1.hv.ls; omega)
            rw [rdOf_eq s1 j hj, e] at this
            cases this
          have hz2 : s2.count false = 0 := by omega
          intro v v0 v1
          obtain ⟨j, rfl⟩ : ∃ j : Nat, v = j := ⟨v.toNat, by omega⟩
          have hj : j < s2.length := by have := H2.ls; omega
          rw [rdOf_eq s2 j hj]
          rw [List.count_eq_zero] at hz2
          cases hh : s2[j] with
          | true => rfl
          | false => exact absurd (hh ▸ List.getElem_mem hj) hz2
      · rcases hp2 with z | z
        · exact .inl z
        · exact .inr (by omega)
theorem TreeIs_l0 {n : Int} {l : List Run} {t : List Int} (hw : wholeB n (pk l t) = true) (ht : t.length ≤ 12) (hx : ∀ x ∈ t, 0 ≤ x ∧ x < (l.length : Int)) (suf : List Int) : ∀ (pre : List Int) (y : Int) (k : Nat), pre ++ suf = t → suf.length + 70 < k → (∀ x ∈ suf, y < x) → suf.Pairwise (· < ·) →
    impl_TreeIs.l0 k n l t y (pre ++ suf) ((pre ++ suf).length : Int) (pre.length : Int) = some true := by
  induction suf with
  | nil =>
    intro pre y k he hk _ _
    obtain ⟨k, rfl⟩ : ∃ m, k = m + 1 := ⟨k - 1, by omega⟩
    rw [impl_TreeIs.l0, if_neg (by simp), pick_eq k (by omega) (by omega) hx]
    simp only [Option.bind_some]
    rw [NetWhole_eq k _ _ (by omega), hw]
    rfl
  | cons z suf ih =>
    intro pre y k he hk hy hp
    simp only [List.length_cons] at hk
    obtain ⟨k, rfl⟩ : ∃ m, k = m + 1 := ⟨k - 1, by omega⟩
    have hz := hx z (by rw [← he]; simp)
    have hyz := hy z (by simp)
    have hl : pre.length + (suf.length + 1) = t.length := by rw [← he]; simp
    rw [impl_TreeIs.l0, if_pos (len_midI _ _ _), if_pos (by omega), if_pos (len_midI _ _ _), rd_midI, if_neg (by omega), if_neg (by omega), next_midI pre z (by omega), app_midI pre suf z]
    rw [List.pairwise_cons] at hp
    exact ih (pre ++ [z]) z k (by rw [← he]; simp) (by omega) (fun x hm => hp.1 x hm) hp.2
theorem ft_whole {n : Int} {l : List Run} (hw : wholeB n l = true) : wholeB n (pk l (ftree n l l.length)) = true := by
  have hv := (wholeB_iff.1 hw).1
  have hn := nvB_n hv
  refine wholeB_iff.2 ⟨pk_valid hv (by have := ft_len n l l.length; omega) (fun x hm => ft_lt n l l.length x hm), fun v v0 v1 => ?_⟩
  refine ft_lk (by omega) (nvB_VL hv) l.length (Nat.le_refl _) _ _ ?_
  rw [List.take_length]
  exact (wholeB_iff.1 hw).2 v v0 v1
theorem ft_size {n : Int} {l : List Run} (hw : wholeB n l = true) : ((ftree n l l.length).length : Int) = n - 1 := by
  have hv := (wholeB_iff.1 hw).1
  have hn := nvB_n hv
  have h1 := ft_parts (by omega) (nvB_VL hv) l.length (Nat.le_refl _)
  have h2 := parts_whole (by omega) (ft_VL (m := l.length) (nvB_VL hv) (Nat.le_refl _)) (wholeB_iff.1 (ft_whole hw)).2
  omega
theorem TreeIs_eq (k : Nat) {n : Int} {l : List Run} (hk : 120 < k) (hw : wholeB n l = true) : impl_TreeIs.f k n l (ftree n l l.length) = some true := by
  have hv := (wholeB_iff.1 hw).1
  have hn := nvB_n hv
  have hs := ft_size hw
  have hlt := ft_lt n l l.length
  have htl := ft_len n l l.length
  obtain ⟨k, rfl⟩ : ∃ m, k = m + 1 := ⟨k - 1, by omega⟩
  unfold impl_TreeIs.f
  rw [impl_NetValid_eq (k + 1) n l (by omega), hv]
  simp only [Option.bind_some]
  rw [if_pos trivial, nw64 (x := n - 1) (by omega) (by omega), hs, impl_TreeIs.j0, if_neg (by simp)]
  have := TreeIs_l0 (ft_whole hw) (by omega) (fun x hm => hlt x hm) (ftree n l l.length) [] (-1) k (by simp) (by omega) (fun x hm => by have := hlt x hm; omega) (ft_asc n l l.length)
  simp only [List.nil_append, List.length_nil] at this
  rw [show ((0 : Nat) : Int) = 0 from rfl] at this
  rw [hs] at this
  rw [hs]
  exact this
/-- The program's heights of the first tree of a whole net fit the tree. -/
theorem TreeHeights_eq (k : Nat) {n : Int} {l : List Run} (hk : 1000 < k) (hw : wholeB n l = true) {h : Int → Int} (hp : pot h (pk l (ftree n l l.length))) :
    ∃ x, impl_TreeHeights.f k n l (ftree n l l.length) = some (x, true) ∧ (x.length : Int) = n ∧ hIn x ∧ ∀ v, 0 ≤ v → v < n → rd x v = h v - h 0 := by
  have hv := (wholeB_iff.1 hw).1
  have hn := nvB_n hv
  have hs := ft_size hw
  have hlt := ft_lt n l l.length
  have hVL := ft_VL (m := l.length) (nvB_VL hv) (Nat.le_refl _)
  have hsub := ft_sub (n := n) (l := l) (Nat.le_refl l.length)
  have hok : ∀ r ∈ pk l (ftree n l l.length), Ok n h r := fun r hr => by
    have := nvB_all hv (hsub r hr)
    exact ⟨this.1.1, this.1.2.1, this.1.2.2.1, this.1.2.2.2.1, this.2.1.1, this.2.1.2, hp r hr⟩
  have hl0 : (List.replicate n.toNat false).length = n.toNat := List.length_replicate
  have hr0 : ∀ v : Int, rdOf false (List.replicate n.toNat false) v = false := fun v => by unfold rdOf; rw [List.getD_eq_getElem?_getD, List.getElem?_replicate]; split <;> rfl
  have hc := count_rdOf (List.replicate n.toNat false) 0 (by omega) (by omega) (hr0 0)
  rw [List.count_replicate_self] at hc
  have ss := fun v v0 (v1 : v < n) => rdOf_set (List.replicate n.toNat false) 0 v true (by omega) v0 (show v < ((List.replicate n.toNat false).length : Int) by omega)
  have H : Hv n h (List.replicate n.toNat 0) ((List.replicate n.toNat false).set (0 : Int).toNat true) := by
    have hz : ∀ v : Int, rd (List.replicate n.toNat 0) v = 0 := fun v => by unfold rd; rw [List.getD_eq_getElem?_getD, List.getElem?_replicate]; split <;> rfl
    refine ⟨by rw [List.length_replicate]; omega, by rw [List.length_set, hl0]; omega, ?_, fun v v0 v1 e => ?_, fun v v0 v1 => ?_⟩
    · rw [ss 0 (by omega) (by omega), if_pos rfl]
    · rw [ss v v0 v1] at e
      split at e
      · next q => rw [q, hz]; omega
      · rw [hr0] at e; cases e
    · rw [hz]; omega
  obtain ⟨x, s, e, Hx, hq⟩ := hl0' (n := n) ⟨by omega, hn.2.1⟩ (h := h) (l := l) (t := ftree n l l.length) (by omega) (fun x hm => hlt x hm) hok (wholeB_iff.1 (ft_whole hw)).2 (X := (ftree n l l.length).length) (by omega) (ftree n l l.length).length 0 _ _ k (by omega) (by omega) (by omega) H
  have hall : ∀ v, 0 ≤ v → v < n → rdOf false s v = true := by
    rcases hq with q | q
    · exact q
    · intro v v0 v1
      have hz : s.count false = 0 := by omega
      obtain ⟨j, rfl⟩ : ∃ j : Nat, v = j := ⟨v.toNat, by omega⟩
      have hj : j < s.length := by have := Hx.ls; omega
      rw [rdOf_eq s j hj]
      rw [List.count_eq_zero] at hz
      cases hh : s[j] with
      | true => rfl
      | false => exact absurd (hh ▸ List.getElem_mem hj) hz
  refine ⟨x, ?_, Hx.lx, fun y hy => ?_, fun v v0 v1 => Hx.val v v0 v1 (hall v v0 v1)⟩
  · rw [show ((0 : Nat) : Int) = 0 from rfl] at e
    unfold impl_TreeHeights.f
    rw [TreeIs_eq k (by omega) hw]
    simp only [Option.bind_some]
    rw [if_pos trivial, if_pos (by omega), if_pos (by omega), if_pos (by omega), if_pos (by rw [hl0]; omega)]
    exact e
  · obtain ⟨j, hj, rfl⟩ := List.getElem_of_mem hy
    have := Hx.bd j (by omega) (by have := Hx.lx; omega)
    rw [rd_eq x j hj] at this
    omega
end Go.Proofs.Ytmcfhmflncghiaa.Pure
namespace Go.Proofs.Ytmcfhmflncghiaa.Pure
open Go.RowKit Go.Proofs.Ytmcfhmflncghiaa.Q Go.Proofs.YtmcfhmflncghiaaW.PrintWords Go.Proofs.YtmcfhmflncghiaaW.PrintLast Go.Proofs.YtmcfhmflncghiaaW.PrintMore

theorem rw64 {x : Int} (h0 : -9223372036854775808 ≤ x) (h1 : x ≤ 9223372036854775807) : wrap64 x = x := by
  unfold wrap64; omega

theorem xor_nonneg (x y : Int) (hx : 0 ≤ x) (hx' : x < 2 ^ 62) (hy : 0 ≤ y) (hy' : y < 2 ^ 62) : 0 ≤ Go.bits .xor .i64 x y := by
  obtain ⟨a, rfl⟩ : ∃ a : Nat, x = a := ⟨x.toNat, by omega⟩
  obtain ⟨b, rfl⟩ : ∃ b : Nat, y = b := ⟨y.toNat, by omega⟩
  have ha : a < 2 ^ 62 := by omega
  have hb : b < 2 ^ 62 := by omega
  have ha' : a % 2 ^ 64 = a := Nat.mod_eq_of_lt (by omega)
  have hb' : b % 2 ^ 64 = b := Nat.mod_eq_of_lt (by omega)
  have h := Nat.xor_lt_two_pow ha hb
  have e : Go.bits .xor .i64 (a : Int) (b : Int) = ((a ^^^ b : Nat) : Int) := by
    have e0 : Go.bits .xor .i64 (a : Int) (b : Int) = IntKind.i64.wrap ((BitVec.ofInt 64 (a : Int) ^^^ BitVec.ofInt 64 (b : Int)).toNat : Int) := rfl
    rw [e0, BitVec.ofInt_natCast, BitVec.ofInt_natCast, BitVec.toNat_xor, BitVec.toNat_ofNat, BitVec.toNat_ofNat, ha', hb', IntKind.wrap_i64]
    omega
  rw [e]
  exact Int.natCast_nonneg _

/-- All numbers of a list are bytes. -/
def Bts (b : List Int) : Prop := b.length ≤ 2000 ∧ ∀ x ∈ b, 0 ≤ x ∧ x ≤ 255
theorem Bts.at_ {b : List Int} (h : Bts b) (i : Int) : 0 ≤ rd b i ∧ rd b i ≤ 255 := by
  unfold rd
  by_cases hi : i.toNat < b.length
  · rw [List.getD_eq_getElem?_getD, List.getElem?_eq_getElem hi]; exact h.2 _ (List.getElem_mem hi)
  · rw [List.getD_eq_getElem?_getD, List.getElem?_eq_none (by omega)]; simp

theorem pick_ok (k : Nat) {b : List Int} {p n : Int} (hb : Bts b) (hp : 0 ≤ p ∧ p ≤ 1000000) (hn : 1 ≤ n) :
    ∃ v, spec_l6Rd_pick.f (k + 1) b p n = some (v, p + 1) ∧ 0 ≤ v ∧ v < n := by
  unfold spec_l6Rd_pick.f
  rw [if_neg (by omega), rw64 (x := p + 1) (by omega) (by omega)]
  simp only [spec_l6Rd_pick.j0]
  by_cases h0 : (b.length : Int) = 0
  · exact ⟨0, by rw [if_pos (by simpa using h0)], by omega, by omega⟩
  · rw [if_neg (by simpa using h0), show p + 1 - 1 = p by omega, rw64 (x := p) (by omega) (by omega)]
    have hlen : 0 < (b.length : Int) := by omega
    have hL := hb.1
    by_cases h1 : p < (b.length : Int)
    · rw [if_pos h1, if_pos hp.1, if_neg (by omega)]
      have hr := hb.at_ p
      rw [rw64 (by omega) (by omega), Int.tmod_eq_emod_of_nonneg hr.1]
      exact ⟨_, rfl, Int.emod_nonneg _ (by omega), Int.emod_lt_of_pos _ (by omega)⟩
    · rw [if_neg h1, if_neg h0]
      have q0 : 0 ≤ Int.tmod p (b.length : Int) := by rw [Int.tmod_eq_emod_of_nonneg hp.1]; exact Int.emod_nonneg _ (by omega)
      have q1 : Int.tmod p (b.length : Int) < (b.length : Int) := by rw [Int.tmod_eq_emod_of_nonneg hp.1]; exact Int.emod_lt_of_pos _ hlen
      rw [rw64 (x := p * 7) (by omega) (by omega), rw64 (x := p * 7 + 3) (by omega) (by omega)]
      have q2 : 0 ≤ Int.tmod (p * 7 + 3) (b.length : Int) := by rw [Int.tmod_eq_emod_of_nonneg (by omega)]; exact Int.emod_nonneg _ (by omega)
      have q3 : Int.tmod (p * 7 + 3) (b.length : Int) < (b.length : Int) := by rw [Int.tmod_eq_emod_of_nonneg (by omega)]; exact Int.emod_lt_of_pos _ hlen
      rw [if_pos q0, if_pos q1, if_pos q2, if_pos q3, if_neg (by omega)]
      have hr := hb.at_ (Int.tmod p (b.length : Int))
      have hs := hb.at_ (Int.tmod (p * 7 + 3) (b.length : Int))
      have hd : 0 ≤ Int.tdiv p (b.length : Int) ∧ Int.tdiv p (b.length : Int) ≤ p := by
        rw [Int.tdiv_eq_ediv_of_nonneg hp.1]
        exact ⟨Int.ediv_nonneg hp.1 (by omega), Int.ediv_le_self _ hp.1⟩
      generalize rd b (Int.tmod p (b.length : Int)) = u at *
      generalize rd b (Int.tmod (p * 7 + 3) (b.length : Int)) = v at *
      generalize Int.tdiv p (b.length : Int) = d at *
      rw [rw64 (x := u) (by omega) (by omega), rw64 (x := v) (by omega) (by omega), rw64 (x := u * 131) (by omega) (by omega), rw64 (x := v * 1117) (by omega) (by omega),
        rw64 (x := u * 131 + v * 1117) (by omega) (by omega), rw64 (x := p * 29) (by omega) (by omega), rw64 (x := u * 131 + v * 1117 + p * 29) (by omega) (by omega),
        rw64 (x := d) (by omega) (by omega), rw64 (x := d * 53) (by omega) (by omega), rw64 (x := u * 131 + v * 1117 + p * 29 + d * 53) (by omega) (by omega)]
      have hx : 0 ≤ u * 131 + v * 1117 + p * 29 + d * 53 := by omega
      have hx' : u * 131 + v * 1117 + p * 29 + d * 53 < 2 ^ 60 := by omega
      generalize u * 131 + v * 1117 + p * 29 + d * 53 = x at *
      have hy : 0 ≤ Int.tdiv x 64 ∧ Int.tdiv x 64 < 2 ^ 60 := by rw [Int.tdiv_eq_ediv_of_nonneg hx]; omega
      rw [rw64 (x := Int.tdiv x 64) (by omega) (by omega)]
      have hz := xor_nonneg x (Int.tdiv x 64) hx (by omega) hy.1 (by omega)
      rw [Int.tmod_eq_emod_of_nonneg hz]
      exact ⟨_, rfl, Int.emod_nonneg _ (by omega), Int.emod_lt_of_pos _ (by omega)⟩

theorem open_ok {l : List Int} (hl : ∀ x ∈ l, (Lit.int .u8 x).wf = true) : ∃ b, spec_l6Open.f l = some (b, 0) ∧ Bts b := by
  have hb : ∀ x ∈ l, 0 ≤ x ∧ x ≤ 255 := fun x hx => by
    have := hl x hx
    simp [Lit.wf, IntKind.min, IntKind.max, IntKind.signed, IntKind.bits] at this
    omega
  unfold spec_l6Open.f
  by_cases h : (l.length : Int) > 2000
  · rw [if_pos h, if_pos (by omega)]
    exact ⟨_, rfl, by rw [List.length_take]; omega, fun x hx => hb x (List.mem_of_mem_take hx)⟩
  · rw [if_neg h]
    exact ⟨_, rfl, by omega, hb⟩
end Go.Proofs.Ytmcfhmflncghiaa.Pure
namespace Go.Proofs.Ytmcfhmflncghiaa.Pure
open Go.RowKit Go.Proofs.Ytmcfhmflncghiaa.Q Go.Proofs.YtmcfhmflncghiaaW.PrintWords Go.Proofs.YtmcfhmflncghiaaW.PrintLast Go.Proofs.YtmcfhmflncghiaaW.PrintMore

theorem l91Net_j3 (k : Nat) {b : List Int} (hb : Bts b) {n p : Int} {x : List Run} (hp : 0 ≤ p ∧ p ≤ 1000) : ∃ x' q, spec_l91Net.j3 (k + 2) n x b p = some (n, x', q) ∧ p ≤ q ∧ q ≤ p + 2 ∧ x'.length = x.length := by
  rw [spec_l91Net.j3]
  by_cases h : (x.length : Int) > 0
  · rw [if_pos h]
    obtain ⟨v1, e1, v10, v11⟩ := pick_ok k hb (p := p) (n := 50) (by omega) (by omega)
    obtain ⟨v2, e2, v20, v21⟩ := pick_ok k hb (p := p + 1) (n := 2) (by omega) (by omega)
    simp only [e1, e2, Option.bind_some]
    by_cases c0 : v1 = 0
    · rw [if_pos c0, if_pos (by omega)]; exact ⟨_, _, rfl, by omega, by omega, by simp⟩
    · rw [if_neg c0]
      by_cases c1 : v1 = 1
      · rw [if_pos c1, if_pos (by omega), if_pos (by simp; omega), if_pos (by omega)]; exact ⟨_, _, rfl, by omega, by omega, by simp⟩
      · rw [if_neg c1]
        by_cases c2 : v1 = 2
        · rw [if_pos c2, if_pos (by omega)]; exact ⟨_, _, rfl, by omega, by omega, by simp⟩
        · rw [if_neg c2]
          by_cases c3 : v1 = 3
          · rw [if_pos c3, if_pos (by omega)]; exact ⟨_, _, rfl, by omega, by omega, by simp⟩
          · rw [if_neg c3]; exact ⟨_, _, rfl, by omega, by omega, rfl⟩
  · rw [if_neg h]; exact ⟨_, _, rfl, by omega, by omega, rfl⟩
theorem l91Net_l2 {b : List Int} (hb : Bts b) {n : Int} (m : Nat) : ∀ (x : List Run) (i p : Int) (k : Nat), (x.length : Int) - i = m → 0 ≤ i → x.length ≤ 20 → 0 ≤ p → p + m ≤ 900 → m + 3 < k →
    ∃ x' q, spec_l91Net.l2 k n x i b p = some (n, x', q) ∧ p ≤ q ∧ q ≤ p + m + 4 ∧ x'.length = x.length := by
  induction m with
  | zero =>
    intro x i p k hm hi hx hp hp' hk
    obtain ⟨k, rfl⟩ : ∃ j, k = j + 3 := ⟨k - 3, by omega⟩
    rw [spec_l91Net.l2, if_neg (by omega)]
    by_cases h : (x.length : Int) > 1
    · rw [if_pos h]
      obtain ⟨v1, e1, v10, v11⟩ := pick_ok (k + 1) hb (p := p) (n := x.length) (by omega) (by omega)
      simp only [e1, Option.bind_some]
      rw [if_pos (by omega), if_pos v10, if_pos v11]
      obtain ⟨x', q, e, q0, q1, hl⟩ := l91Net_j3 k hb (n := n) (p := p + 1) (x := ((x.set (0 : Int).toNat (⟨(rd_T32 x v1).f0, (rd_T32 x v1).f1, (rd_T32 x v1).f2, (rd_T32 x v1).f3⟩ : Run)).set (v1 : Int).toNat (⟨(rd_T32 x 0).f0, (rd_T32 x 0).f1, (rd_T32 x 0).f2, (rd_T32 x 0).f3⟩ : Run))) (by omega)
      exact ⟨x', q, e, by omega, by omega, by rw [hl]; simp⟩
    · rw [if_neg h]
      obtain ⟨x', q, e, q0, q1, hl⟩ := l91Net_j3 k hb (n := n) (p := p) (x := x) (by omega)
      exact ⟨x', q, e, by omega, by omega, hl⟩
  | succ m ih =>
    intro x i p k hm hi hx hp hp' hk
    obtain ⟨k, rfl⟩ : ∃ j, k = j + 2 := ⟨k - 2, by omega⟩
    rw [spec_l91Net.l2, if_pos (by omega)]
    obtain ⟨v1, e1, v10, v11⟩ := pick_ok k hb (p := p) (n := 3) (by omega) (by omega)
    simp only [e1, Option.bind_some]
    rw [rw64 (x := i + 1) (by omega) (by omega)]
    by_cases c : v1 = 0
    · rw [if_pos c, if_pos hi]
      obtain ⟨x', q, e, q0, q1, hl⟩ := ih (x.set (i : Int).toNat (⟨(rd_T32 x i).f1, (rd_T32 x i).f0, wrap64 (-((rd_T32 x i).f2)), (rd_T32 x i).f3⟩ : Run)) (i + 1) (p + 1) (k + 1) (by simp; omega) (by omega) (by simp; omega) (by omega) (by omega) (by omega)
      exact ⟨x', q, e, by omega, by omega, by rw [hl]; simp⟩
    · rw [if_neg c]
      obtain ⟨x', q, e, q0, q1, hl⟩ := ih x (i + 1) (p + 1) (k + 1) (by omega) (by omega) (by omega) (by omega) (by omega) (by omega)
      exact ⟨x', q, e, by omega, by omega, hl⟩
theorem l91Net_l1 {b : List Int} (hb : Bts b) {n : Int} (hn : 2 ≤ n ∧ n ≤ 6) (m : Nat) : ∀ (x : List Run) (c i p : Int) (k : Nat), c - i = m → 0 ≤ i → c ≤ 4 → x.length + m ≤ 20 → 0 ≤ p → p + 4 * m ≤ 400 → m + 40 < k →
    ∃ x' q, spec_l91Net.l1 k n x c i b p = some (n, x', q) ∧ p ≤ q ∧ q ≤ p + 4 * m + 30 ∧ x'.length ≤ 20 := by
  induction m with
  | zero =>
    intro x c i p k hm hi hc hx hp hp' hk
    obtain ⟨k, rfl⟩ : ∃ j, k = j + 1 := ⟨k - 1, by omega⟩
    rw [spec_l91Net.l1, if_neg (by omega)]
    obtain ⟨x', q, e, q0, q1, hl⟩ := l91Net_l2 hb (n := n) x.length x 0 p k (by omega) (by omega) (by omega) (by omega) (by omega) (by omega)
    exact ⟨x', q, e, by omega, by omega, by omega⟩
  | succ m ih =>
    intro x c i p k hm hi hc hx hp hp' hk
    obtain ⟨k, rfl⟩ : ∃ j, k = j + 2 := ⟨k - 2, by omega⟩
    rw [spec_l91Net.l1, if_pos (by omega), rw64 (x := n - 1) (by omega) (by omega)]
    obtain ⟨v1, e1, v10, v11⟩ := pick_ok k hb (p := p) (n := n) (by omega) (by omega)
    obtain ⟨v2, e2, v20, v21⟩ := pick_ok k hb (p := p + 1) (n := n - 1) (by omega) (by omega)
    obtain ⟨v3, e3, v30, v31⟩ := pick_ok k hb (p := p + 1 + 1) (n := 61) (by omega) (by omega)
    obtain ⟨v4, e4, v40, v41⟩ := pick_ok k hb (p := p + 1 + 1 + 1) (n := 4) (by omega) (by omega)
    simp only [e1, e2, e3, e4, Option.bind_some]
    rw [if_neg (by omega), if_pos (by omega), rw64 (x := i + 1) (by omega) (by omega)]
    obtain ⟨x', q, e, q0, q1, hl⟩ := ih (x ++ [(⟨v1, Int.tmod (wrap64 ((wrap64 (v1 + 1)) + v2)) n, wrap64 (v3 - 30), wrap64 (1 + v4)⟩ : Run)]) c (i + 1) (p + 1 + 1 + 1 + 1) (k + 1) (by omega) (by omega) hc (by simp; omega) (by omega) (by omega) (by omega)
    exact ⟨x', q, e, by omega, by omega, hl⟩
theorem l91Net_l0 {b : List Int} (hb : Bts b) {n : Int} (hn : 2 ≤ n ∧ n ≤ 6) (m : Nat) : ∀ (x : List Run) (i p : Int) (k : Nat), n - i = m → 1 ≤ i → x.length + m ≤ 10 → 0 ≤ p → p + 4 * m ≤ 300 → m + 60 < k →
    ∃ x' q, spec_l91Net.l0 k n x i b p = some (n, x', q) ∧ p ≤ q ∧ q ≤ p + 4 * m + 60 ∧ x'.length ≤ 20 := by
  induction m with
  | zero =>
    intro x i p k hm hi hx hp hp' hk
    obtain ⟨k, rfl⟩ : ∃ j, k = j + 2 := ⟨k - 2, by omega⟩
    rw [spec_l91Net.l0, if_neg (by omega)]
    obtain ⟨v1, e1, v10, v11⟩ := pick_ok k hb (p := p) (n := 4) (by omega) (by omega)
    simp only [e1, Option.bind_some]
    obtain ⟨x', q, e, q0, q1, hl⟩ := l91Net_l1 hb hn v1.toNat x v1 0 (p + 1) (k + 1) (by omega) (by omega) (by omega) (by omega) (by omega) (by omega) (by omega)
    exact ⟨x', q, e, by omega, by omega, by omega⟩
  | succ m ih =>
    intro x i p k hm hi hx hp hp' hk
    obtain ⟨k, rfl⟩ : ∃ j, k = j + 2 := ⟨k - 2, by omega⟩
    rw [spec_l91Net.l0, if_pos (by omega), rw64 (x := i + 1) (by omega) (by omega)]
    obtain ⟨v1, e1, v10, v11⟩ := pick_ok k hb (p := p) (n := 12) (by omega) (by omega)
    obtain ⟨v2, e2, v20, v21⟩ := pick_ok k hb (p := p + 1) (n := i) (by omega) (by omega)
    obtain ⟨v3, e3, v30, v31⟩ := pick_ok k hb (p := p + 1 + 1) (n := 61) (by omega) (by omega)
    obtain ⟨v4, e4, v40, v41⟩ := pick_ok k hb (p := p + 1 + 1 + 1) (n := 4) (by omega) (by omega)
    simp only [e1, e2, e3, e4, Option.bind_some]
    by_cases c : v1 > 0
    · rw [if_pos c, if_pos (by omega)]
      obtain ⟨x', q, e, q0, q1, hl⟩ := ih (x ++ [(⟨v2, i, wrap64 (v3 - 30), wrap64 (1 + v4)⟩ : Run)]) (i + 1) (p + 1 + 1 + 1 + 1) (k + 1) (by omega) (by omega) (by simp; omega) (by omega) (by omega) (by omega)
      exact ⟨x', q, e, by omega, by omega, hl⟩
    · rw [if_neg c]
      obtain ⟨x', q, e, q0, q1, hl⟩ := ih x (i + 1) (p + 1) (k + 1) (by omega) (by omega) (by omega) (by omega) (by omega) (by omega)
      exact ⟨x', q, e, by omega, by omega, hl⟩
theorem l91Net_ok (k : Nat) {b : List Int} (hb : Bts b) {p m : Int} (hp : 0 ≤ p ∧ p ≤ 200) (hm : 2 ≤ m ∧ m ≤ 6) (hk : 100 < k) : ∃ n x q, spec_l91Net.f k b p m = some (n, x, q) ∧ p ≤ q ∧ q ≤ p + 100 ∧ x.length ≤ 20 ∧ 2 ≤ n ∧ n ≤ m := by
  obtain ⟨k, rfl⟩ : ∃ j, k = j + 1 := ⟨k - 1, by omega⟩
  unfold spec_l91Net.f
  rw [rw64 (x := m - 1) (by omega) (by omega)]
  obtain ⟨v1, e1, v10, v11⟩ := pick_ok k hb (p := p) (n := m - 1) (by omega) (by omega)
  simp only [e1, Option.bind_some]
  rw [rw64 (x := 2 + v1) (by omega) (by omega)]
  obtain ⟨x, q, e, q0, q1, hl⟩ := l91Net_l0 hb (n := 2 + v1) (by omega) (1 + v1).toNat [] 1 (p + 1) (k + 1) (by omega) (by omega) (by simp; omega) (by omega) (by omega) (by omega)
  exact ⟨_, x, q, e, by omega, by omega, hl, by omega, by omega⟩
end Go.Proofs.Ytmcfhmflncghiaa.Pure
namespace Go.Proofs.Ytmcfhmflncghiaa.Pure
open Go.RowKit Go.Proofs.Ytmcfhmflncghiaa.Q Go.Proofs.YtmcfhmflncghiaaW.PrintWords Go.Proofs.YtmcfhmflncghiaaW.PrintLast Go.Proofs.YtmcfhmflncghiaaW.PrintMore
theorem True_j2 (k : Nat) {b : List Int} (hb : Bts b) {n p : Int} {x : List Run} (hx : x.length ≤ 12) (hr : ∀ r ∈ x, -40 ≤ r.f2 ∧ r.f2 ≤ 40) (f : Bool) (hf : f = true → 0 < x.length) (hp : 0 ≤ p ∧ p ≤ 1000) :
    ∃ x' q, spec_l91True.j2 (k + 2) n x f b p = some (n, x', q) ∧ x'.length = x.length ∧ ∀ r ∈ x', -60 ≤ r.f2 ∧ r.f2 ≤ 60 := by
  rw [spec_l91True.j2]
  cases f with
  | false => exact ⟨x, p, by rw [if_neg (by simp)], rfl, fun r h => by have := hr r h; omega⟩
  | true =>
    have h0 := hf rfl
    obtain ⟨v1, e1, v10, v11⟩ := pick_ok k hb (p := p) (n := (x.length : Int)) (by omega) (by omega)
    obtain ⟨v2, e2, v20, v21⟩ := pick_ok k hb (p := p + 1) (n := 9) (by omega) (by omega)
    obtain ⟨i, rfl⟩ : ∃ i : Nat, v1 = i := ⟨v1.toNat, by omega⟩
    have hri : -40 ≤ (rd_T32 x (i : Int)).f2 ∧ (rd_T32 x (i : Int)).f2 ≤ 40 := by
      refine hr _ ?_
      unfold rd_T32
      have hi : i < x.length := by omega
      simp [hi]
    rw [if_pos rfl, e1]
    simp only [Option.bind_some]
    rw [if_pos v10, if_pos v11, e2]
    simp only [Option.bind_some]
    refine ⟨_, _, rfl, by simp, fun r h => ?_⟩
    rcases List.mem_or_eq_of_mem_set h with q | q
    · have := hr r q; omega
    · rw [q]
      show -60 ≤ wrap64 (wrap64 ((rd_T32 x (i : Int)).f2 + 1) + v2) ∧ wrap64 (wrap64 ((rd_T32 x (i : Int)).f2 + 1) + v2) ≤ 60
      rw [rw64 (x := (rd_T32 x (i : Int)).f2 + 1) (by omega) (by omega), rw64 (by omega) (by omega)]
      omega
theorem True_l1 {b : List Int} (hb : Bts b) {n : Int} {h : List Int} (hh : (h.length : Int) = n) (hbd : ∀ v : Int, 0 ≤ v → v < n → -20 ≤ rd h v ∧ rd h v ≤ 20) (suf : List Run) : ∀ (pre : List Run) (p : Int) (k : Nat), pre.length + suf.length ≤ 12 → (∀ r ∈ pre, -40 ≤ r.f2 ∧ r.f2 ≤ 40) → (∀ r ∈ suf, 0 ≤ r.f0 ∧ r.f0 < n ∧ 0 ≤ r.f1 ∧ r.f1 < n) → 0 ≤ p ∧ p ≤ 900 → suf.length + 5 < k →
    ∃ x' q, spec_l91True.l1 k n (pre ++ suf) h (pre.length : Int) b p = some (n, x', q) ∧ x'.length ≤ 12 ∧ ∀ r ∈ x', -60 ≤ r.f2 ∧ r.f2 ≤ 60 := by
  induction suf with
  | nil =>
    intro pre p k hl hg _ hp hk
    simp only [List.length_nil] at hl hk
    obtain ⟨k, rfl⟩ : ∃ j, k = j + 3 := ⟨k - 3, by omega⟩
    rw [List.append_nil, spec_l91True.l1, if_neg (by omega)]
    by_cases c : (pre.length : Int) > 0
    · obtain ⟨v1, e1, v10, v11⟩ := pick_ok (k + 1) hb (p := p) (n := 2) (by omega) (by omega)
      rw [if_pos c, e1]
      simp only [Option.bind_some]
      obtain ⟨x', q, e, h1, h2⟩ := True_j2 k hb (n := n) (p := p + 1) (x := pre) (by omega) hg (v1 == 0) (fun _ => by omega) (by omega)
      exact ⟨x', q, e, by omega, h2⟩
    · rw [if_neg c]
      obtain ⟨x', q, e, h1, h2⟩ := True_j2 k hb (n := n) (p := p) (x := pre) (by omega) hg false (by simp) (by omega)
      exact ⟨x', q, e, by omega, h2⟩
  | cons y suf ih =>
    intro pre p k hl hg hv hp hk
    simp only [List.length_cons] at hl hk
    obtain ⟨k, rfl⟩ : ∃ j, k = j + 1 := ⟨k - 1, by omega⟩
    have hy := hv y List.mem_cons_self
    have b0 := hbd y.f0 hy.1 hy.2.1
    have b1 := hbd y.f1 hy.2.2.1 hy.2.2.2
    rw [spec_l91True.l1, if_pos (len_midR _ _ _), if_pos (by omega), rd_midR, if_pos hy.2.2.1, if_pos (by omega), if_pos hy.1, if_pos (by omega), rw64 (x := rd h y.f1 - rd h y.f0) (by omega) (by omega), set_midR, next_midR pre y (by omega), app_midR pre suf]
    have := ih (pre ++ [⟨y.f0, y.f1, rd h y.f1 - rd h y.f0, y.f3⟩]) p k (by simp; omega) (fun r hr => by
      rcases List.mem_append.1 hr with q | q
      · exact hg r q
      · rw [List.mem_singleton.1 q]
        show -40 ≤ rd h y.f1 - rd h y.f0 ∧ rd h y.f1 - rd h y.f0 ≤ 40
        omega) (fun r hr => hv r (List.mem_cons_of_mem _ hr)) hp (by omega)
    simpa only [List.length_append, List.length_singleton] using this
theorem rd_snoc (h : List Int) (x v : Int) (v0 : 0 ≤ v) : rd (h ++ [x]) v = if v < (h.length : Int) then rd h v else if v = (h.length : Int) then x else 0 := by
  obtain ⟨i, rfl⟩ : ∃ i : Nat, v = i := ⟨v.toNat, by omega⟩
  unfold rd
  rw [Int.toNat_natCast, List.getD_eq_getElem?_getD, List.getD_eq_getElem?_getD]
  by_cases c : i < h.length
  · rw [if_pos (by omega), List.getElem?_append_left c]
  · rw [if_neg (by omega), List.getElem?_append_right (by omega)]
    by_cases e : i = h.length
    · rw [if_pos (by omega), e, Nat.sub_self]; rfl
    · rw [if_neg (by omega)]
      obtain ⟨j, hj⟩ : ∃ j, i - h.length = j + 1 := ⟨i - h.length - 1, by omega⟩
      rw [hj]; rfl
theorem True_l0 {b : List Int} (hb : Bts b) {n : Int} {x : List Run} (hn : 2 ≤ n ∧ n ≤ 6) (hx : x.length ≤ 12) (hv : ∀ r ∈ x, 0 ≤ r.f0 ∧ r.f0 < n ∧ 0 ≤ r.f1 ∧ r.f1 < n) (c : Nat) : ∀ (h : List Int) (p : Int) (k : Nat), n - (h.length : Int) = c → (∀ v : Int, 0 ≤ v → v < (h.length : Int) → -20 ≤ rd h v ∧ rd h v ≤ 20) → 0 ≤ p → p + c ≤ 900 → c + 40 < k →
    ∃ x' q, spec_l91True.l0 k n x h (h.length : Int) b p = some (n, x', q) ∧ x'.length ≤ 12 ∧ ∀ r ∈ x', -60 ≤ r.f2 ∧ r.f2 ≤ 60 := by
  induction c with
  | zero =>
    intro h p k hc hbd hp hp' hk
    obtain ⟨k, rfl⟩ : ∃ j, k = j + 1 := ⟨k - 1, by omega⟩
    rw [spec_l91True.l0, if_neg (by omega)]
    exact True_l1 hb (n := n) (h := h) (by omega) (fun v v0 v1 => hbd v v0 (by omega)) x [] p k (by simpa using hx) (by simp) hv (by omega) (by omega)
  | succ c ih =>
    intro h p k hc hbd hp hp' hk
    obtain ⟨k, rfl⟩ : ∃ j, k = j + 2 := ⟨k - 2, by omega⟩
    obtain ⟨v1, e1, v10, v11⟩ := pick_ok k hb (p := p) (n := 41) (by omega) (by omega)
    rw [spec_l91True.l0, if_pos (by omega), e1]
    simp only [Option.bind_some]
    rw [if_pos (by omega), rw64 (x := v1 - 20) (by omega) (by omega), rw64 (x := (h.length : Int) + 1) (by omega) (by omega)]
    have := ih (h ++ [v1 - 20]) (p + 1) (k + 1) (by simp; omega) (fun v v0 hv1 => by
      rw [rd_snoc _ _ _ v0]
      split
      · next q => exact hbd v v0 q
      · split <;> omega) (by omega) (by omega) (by omega)
    simpa only [List.length_append, List.length_singleton, Int.natCast_add, Int.cast_ofNat_Int] using this
theorem l91True_ok (k : Nat) {b : List Int} (hb : Bts b) (hk : 200 < k) : ∃ n x q, spec_l91True.f k b 0 6 = some (n, x, q) ∧ (nvB n x = true → ∀ r ∈ x, r.f2 ≤ 60) := by
  unfold spec_l91True.f
  obtain ⟨n, x, q, e, q0, q1, hl, n0, n1⟩ := l91Net_ok k hb (p := 0) (m := 6) (by omega) (by omega) (by omega)
  rw [e]
  simp only [Option.bind_some]
  rw [spec_NetValid_eq k n x (by omega)]
  simp only [Option.bind_some]
  by_cases hv : nvB n x = true
  · have hv2 := hv
    unfold nvB at hv2
    rw [Bool.and_eq_true, decide_eq_true_iff, List.all_eq_true] at hv2
    rw [if_pos hv]
    obtain ⟨x', q', e', _, h2⟩ := True_l0 hb (n := n) (x := x) ⟨n0, n1⟩ hv2.1.2.2 (fun r hr => by
      have := hv2.2 r hr
      unfold rvB at this
      have := of_decide_eq_true this
      omega) n.toNat [] q k (by simp; omega) (fun v v0 v1 => absurd v1 (by simp; omega)) (by omega) (by omega) (by omega)
    exact ⟨n, x', q', e', fun _ r hr => (h2 r hr).2⟩
  · rw [if_neg hv]
    exact ⟨n, x, q, rfl, fun h => absurd h hv⟩
theorem DrawLoopErrors_ok (k : Nat) (hk : 200 < k) {bs : List Int} (hbs : ∀ x ∈ bs, (Lit.int .u8 x).wf = true) : ∃ n l, spec_DrawLoopErrors.f k bs = some (n, l) := by
  obtain ⟨b, e, hb⟩ := open_ok hbs
  obtain ⟨n, x, q, e2, _⟩ := l91True_ok k hb hk
  unfold spec_DrawLoopErrors.f
  rw [e]
  simp only [Option.bind_some]
  rw [e2]
  exact ⟨n, x, rfl⟩
end Go.Proofs.Ytmcfhmflncghiaa.Pure
namespace Go.Proofs.Ytmcfhmflncghiaa.Pure
open Go.RowKit Go.Proofs.Ytmcfhmflncghiaa.Q Go.Proofs.YtmcfhmflncghiaaW.PrintWords Go.Proofs.YtmcfhmflncghiaaW.PrintLast Go.Proofs.YtmcfhmflncghiaaW.PrintMore

theorem len_mid (pre suf : List Int) (y : Int) : (pre.length : Int) < ((pre ++ y :: suf).length : Int) := by simp; omega
theorem app_mid (pre suf : List Int) (y : Int) : pre ++ y :: suf = (pre ++ [y]) ++ suf := by simp
theorem next_mid (pre : List Int) (y : Int) (h : pre.length < 4611686018427387904) : wrap64 ((pre.length : Int) + 1) = ((pre ++ [y]).length : Int) := by
  unfold wrap64; simp; omega
end Go.Proofs.Ytmcfhmflncghiaa.Pure
namespace Go.Proofs.Ytmcfhmflncghiaa.Pure
open Go.RowKit Go.Proofs.Ytmcfhmflncghiaa.Q Go.Proofs.YtmcfhmflncghiaaW.PrintWords Go.Proofs.YtmcfhmflncghiaaW.PrintLast Go.Proofs.YtmcfhmflncghiaaW.PrintMore

theorem sum_bd {B : Nat} (l : List Int) (h : ∀ x ∈ l, -(B : Int) ≤ x ∧ x ≤ B) : -((l.length * B : Nat) : Int) ≤ l.sum ∧ l.sum ≤ (l.length * B : Nat) := by
  induction l with
  | nil => simp
  | cons y l ih =>
    have h1 := ih (fun x hx => h x (List.mem_cons_of_mem _ hx))
    have h2 := h y List.mem_cons_self
    rw [List.sum_cons, List.length_cons, Nat.succ_mul]
    omega
/-- Valid lengths. -/
def LV (l : List Int) : Prop := (∀ x ∈ l, 0 ≤ x ∧ x ≤ 10000) ∧ 1 ≤ l.length ∧ l.length ≤ 20 ∧ 0 < l.sum
instance (l : List Int) : Decidable (LV l) := by unfold LV; infer_instance
theorem LV.sum {l : List Int} (h : LV l) : 0 < l.sum ∧ l.sum ≤ 200000 := by
  have := sum_bd (B := 10000) l (fun x hx => by have := h.1 x hx; omega)
  have h20 : l.length * 10000 ≤ 20 * 10000 := Nat.mul_le_mul_right _ h.2.2.1
  exact ⟨h.2.2.2, by omega⟩
theorem LV.at_ {l : List Int} (h : LV l) (i : Int) : 0 ≤ rd l i ∧ rd l i ≤ 10000 := by
  unfold rd
  by_cases hi : i.toNat < l.length
  · rw [List.getD_eq_getElem?_getD, List.getElem?_eq_getElem hi]; exact h.1 _ (List.getElem_mem hi)
  · rw [List.getD_eq_getElem?_getD, List.getElem?_eq_none (by omega)]; simp

/-- Valid lengths and a valid amount. -/
def AV (l : List Int) (a : Int) : Prop := LV l ∧ -10000000 ≤ a ∧ a ≤ 10000000
instance (l : List Int) (a : Int) : Decidable (AV l a) := by unfold AV; infer_instance
/-- Whether all shares are in range. -/
def shIn (m : Int) (s : List Int) : Prop := ∀ x ∈ s, -m ≤ x ∧ x ≤ m
instance (m : Int) (s : List Int) : Decidable (shIn m s) := by unfold shIn; infer_instance
end Go.Proofs.Ytmcfhmflncghiaa.Pure
namespace Go.Proofs.Ytmcfhmflncghiaa.Pure
open Go.RowKit Go.Proofs.Ytmcfhmflncghiaa.Q Go.Proofs.YtmcfhmflncghiaaW.PrintWords Go.Proofs.YtmcfhmflncghiaaW.PrintLast
theorem sameInts_l0 (suf : List Int) : ∀ (pre : List Int) (k : Nat), suf.length < k → pre.length + suf.length < 4611686018427387904 → laws_sameInts.l0 k (pre ++ suf) (pre ++ suf) (pre.length : Int) = some true := by
  induction suf with
  | nil =>
    intro pre k hk _
    obtain ⟨k, rfl⟩ : ∃ m, k = m + 1 := ⟨k - 1, by omega⟩
    simp [laws_sameInts.l0]
  | cons y suf ih =>
    intro pre k hk hl
    simp only [List.length_cons] at hk hl
    obtain ⟨k, rfl⟩ : ∃ m, k = m + 1 := ⟨k - 1, by omega⟩
    simp only [laws_sameInts.l0]
    rw [if_pos (len_mid _ _ _), if_pos (by omega), if_pos (len_mid _ _ _), if_pos trivial, next_mid pre y (by omega), app_mid pre suf y]
    exact ih (pre ++ [y]) k (by omega) (by simp; omega)
theorem sameInts_self (k : Nat) (l : List Int) (hk : l.length < k) (hl : l.length ≤ 1000000000) : laws_sameInts.f k l l = some true := by
  unfold laws_sameInts.f
  rw [if_pos rfl]
  exact sameInts_l0 l [] k hk (by simp; omega)
end Go.Proofs.Ytmcfhmflncghiaa.Pure
namespace Go.Proofs.Ytmcfhmflncghiaa.Pure
open Go.RowKit Go.Proofs.Ytmcfhmflncghiaa.Q Go.Proofs.YtmcfhmflncghiaaW.PrintWords Go.Proofs.YtmcfhmflncghiaaW.PrintLast Go.Proofs.YtmcfhmflncghiaaW.PrintMore
def upto (o : List Int) (m : Nat) : Nat := ((List.range m).filter fun (i : Nat) => decide (rd o (i : Int) = (i : Int))).length
theorem upto_succ (o : List Int) (m : Nat) : upto o (m + 1) = upto o m + (if rd o (m : Int) = (m : Int) then 1 else 0) := by
  unfold upto
  rw [List.range_succ, List.filter_append, List.length_append]
  by_cases c : rd o (m : Int) = (m : Int)
  · simp [c]
  · simp [c]
theorem upto_le (o : List Int) (m : Nat) : upto o m ≤ m := by
  have := List.length_filter_le (fun (i : Nat) => decide (rd o (i : Int) = (i : Int))) (List.range m)
  rwa [List.length_range] at this
theorem NetLoops_l0 {o : List Int} (hl : o.length ≤ 100) {z : Int} (hz : -100 ≤ z ∧ z ≤ 100) (c : Nat) : ∀ (i k : Nat), o.length - i = c → i ≤ o.length → c < k → impl_NetLoops.l0 k (z + (upto o i : Int)) o (o.length : Int) (i : Int) = some (z + (upto o o.length : Int)) := by
  induction c with
  | zero =>
    intro i k hc hi hk
    obtain ⟨k, rfl⟩ : ∃ m, k = m + 1 := ⟨k - 1, by omega⟩
    rw [impl_NetLoops.l0, if_neg (by omega), show i = o.length by omega]
  | succ c ih =>
    intro i k hc hi hk
    obtain ⟨k, rfl⟩ : ∃ m, k = m + 1 := ⟨k - 1, by omega⟩
    have hu := upto_le o i
    have hn := ih (i + 1) k (by omega) (by omega) (by omega)
    rw [upto_succ] at hn
    rw [impl_NetLoops.l0, if_pos (by omega), if_pos (by omega), if_pos (by omega), nx64 (by omega)]
    by_cases c : (i : Int) = rd o (i : Int)
    · rw [if_pos c.symm] at hn
      rw [if_pos c, nw64 (by omega) (by omega), show z + (upto o i : Int) + 1 = z + ((upto o i + 1 : Nat) : Int) by omega]
      exact hn
    · rw [if_neg (fun e => c e.symm)] at hn
      rw [if_neg c]
      exact hn
theorem NetLoops_eq (k : Nat) {n : Int} {l : List Run} (hk : 50 < k) (hw : wholeB n l = true) : impl_NetLoops.f k n l = some ((l.length : Int) - n + 1) := by
  have hv := (wholeB_iff.1 hw).1
  have hn := nvB_n hv
  have hL := (leastR_lst (by omega) l (nvB_VL hv)).len
  have hp : upto (leastR n l) (leastR n l).length = 1 := parts_whole (by omega) (nvB_VL hv) (wholeB_iff.1 hw).2
  have := NetLoops_l0 (o := leastR n l) (by omega) (z := (l.length : Int) - n) (by omega) (leastR n l).length 0 k (by omega) (by omega) (by omega)
  rw [hp] at this
  unfold impl_NetLoops.f
  rw [impl_NetValid_eq k n l (by omega), hv]
  simp only [Option.bind_some]
  rw [if_pos trivial, leastLinked_eq hv]
  simp only [Option.bind_some]
  rw [nw64 (by omega) (by omega)]
  have e0 : upto (leastR n l) 0 = 0 := rfl
  rw [e0, show (l.length : Int) - n + ((0 : Nat) : Int) = (l.length : Int) - n by omega] at this
  exact this
theorem errF_congr (l : List Run) (t t' : List Int) (h : Int → Int) : ∀ (c i : Nat), (∀ j : Nat, i ≤ j → ((j : Int) ∈ t ↔ (j : Int) ∈ t')) → errF l t h c i = errF l t' h c i
  | 0, _, _ => rfl
  | c + 1, i, H => by
    rw [errF, errF, errF_congr l t t' h c (i + 1) (fun j hj => H j (by omega))]
    by_cases q : (i : Int) ∈ t
    · rw [if_pos q, if_pos ((H i (by omega)).1 q)]
    · rw [if_neg q, if_neg (fun z => q ((H i (by omega)).2 z))]
theorem errF_length (l : List Run) (h : Int → Int) : ∀ (c i : Nat) (t : List Int), t.Pairwise (· < ·) → (∀ x ∈ t, (i : Int) ≤ x ∧ x < (i : Int) + c) → (errF l t h c i).length + t.length = c
  | 0, i, t, _, ht => by
    have : t = [] := List.eq_nil_iff_forall_not_mem.2 fun x hx => by have := ht x hx; omega
    rw [this]; rfl
  | c + 1, i, t, hp, ht => by
    rw [errF]
    by_cases q : (i : Int) ∈ t
    · rw [if_pos q]
      cases t with
      | nil => simp at q
      | cons x t =>
        rw [List.pairwise_cons] at hp
        have hx : x = (i : Int) := by
          rcases List.mem_cons.1 q with z | z
          · exact z.symm
          · have := hp.1 _ z
            have := ht x (by simp)
            omega
        rw [errF_congr l (x :: t) t h c (i + 1) (fun j hj => by
          rw [List.mem_cons]
          exact ⟨fun z => z.resolve_left (by omega), .inr⟩)]
        have := errF_length l h c (i + 1) t hp.2 (fun y hy => by
          have := hp.1 y hy
          have := ht y (by simp [hy])
          omega)
        rw [List.length_cons]
        omega
    · rw [if_neg q]
      have := errF_length l h c (i + 1) t hp (fun y hy => by
        have := ht y hy
        have : y ≠ (i : Int) := fun e => q (e ▸ hy)
        omega)
      rw [List.length_cons]
      omega
/-- The law's loop. -/
theorem lawErrors_l0 {n : Int} {l : List Run} {E x : List Int} (hE : E.length ≤ 100) (h1 : ∀ k, 400 < k → impl_NetLoops.f k n l = some (E.length : Int)) (h2 : ∀ k, 400 < k → impl_LoopCloses.f k n l = some (E.all fun x => decide (x = 0))) (h3 : ∀ k, 400 < k → impl_NetFits.f k n l x = some (E.all fun x => decide (x = 0))) (suf : List Int) : ∀ (pre : List Int) (b : Bool) (k : Nat), pre ++ suf = E → b = (pre.all fun x => decide (x = 0)) → suf.length + 500 < k →
    laws_FnLoopErrors.l0 k n l E true x true b (pre.length : Int) = some true := by
  induction suf with
  | nil =>
    intro pre b k he hb hk
    simp only [List.length_nil] at hk
    obtain ⟨k, rfl⟩ : ∃ m, k = m + 1 := ⟨k - 1, by omega⟩
    rw [List.append_nil] at he
    rw [he] at hb ⊢
    rw [laws_FnLoopErrors.l0, if_neg (by omega), if_pos rfl, if_pos rfl, h1 k (by omega)]
    simp only [Option.bind_some]
    rw [if_pos trivial, h2 k (by omega)]
    simp only [Option.bind_some]
    rw [hb, if_pos (by simp), h3 k (by omega)]
    simp
  | cons y suf ih =>
    intro pre b k he hb hk
    simp only [List.length_cons] at hk
    obtain ⟨k, rfl⟩ : ∃ m, k = m + 1 := ⟨k - 1, by omega⟩
    have hl : pre.length + (suf.length + 1) = E.length := by rw [← he]; simp
    have hr : rd E (pre.length : Int) = y := by rw [← he]; exact rd_midI pre suf y
    have hn := fun b hb => ih (pre ++ [y]) b k (by rw [← he]; simp) hb (by omega)
    rw [laws_FnLoopErrors.l0, if_pos (by omega), hr, nx64 (by omega)]
    cases b with
    | true =>
      rw [if_pos rfl, if_pos (by omega)]
      have := hn (y == 0) (by rw [List.all_append, ← hb]; simp; rfl)
      simpa only [List.length_append, List.length_singleton] using this
    | false =>
      rw [if_neg (by simp)]
      have := hn false (by rw [List.all_append, ← hb]; rfl)
      simpa only [List.length_append, List.length_singleton] using this
theorem FnLoopErrors : laws_FnLoopErrors.Pure := by
  intro l0 _ _ hl0
  refine ⟨2003, ?_⟩
  unfold laws_FnLoopErrors.f
  split
  · rfl
  · obtain ⟨n, l, hd⟩ := DrawLoopErrors_ok 2003 (by omega) hl0
    rw [hd, Option.bind_some]
    dsimp only
    by_cases hw : wholeB n l = true
    · have hv := (wholeB_iff.1 hw).1
      have hn := nvB_n hv
      have hVL := nvB_VL hv
      obtain ⟨h, hp⟩ := ft_pot (n := n) (by omega) hVL l.length (Nat.le_refl _)
      have hsz := ft_size hw
      have hel := errF_length l h l.length 0 (ftree n l l.length) (ft_asc n l l.length) (fun x hx => by have := ft_lt n l l.length x hx; omega)
      obtain ⟨x, e1, e2, e3, e4⟩ := TreeHeights_eq 2002 (by omega) hw hp
      have hall := pot_iff hp
      have hpx : pot (rd x) l ↔ pot h l := by
        refine ⟨fun q r hr => ?_, fun q r hr => ?_⟩ <;> have a := hVL r hr <;> have := q r hr <;> have b1 := e4 r.f1 a.2.2.1 a.2.2.2 <;> have b0 := e4 r.f0 a.1 a.2.1 <;> omega
      have h3 : ∀ k, 400 < k → impl_NetFits.f k n l x = some ((errF l (ftree n l l.length) h l.length 0).all fun x => decide (x = 0)) := fun k hk => by
        obtain ⟨c1, b, c2⟩ := NetFits_true k n l x (by omega) hv e2 e3
        rw [c2]
        congr 1
        rw [Bool.eq_iff_iff, hall, ← hpx, ← c1, c2]
        simp
      have h2 : ∀ k, 400 < k → impl_LoopCloses.f k n l = some ((errF l (ftree n l l.length) h l.length 0).all fun x => decide (x = 0)) := fun k hk => LoopCloses_eq k (by omega) hw hp
      have h1 : ∀ k, 400 < k → impl_NetLoops.f k n l = some ((errF l (ftree n l l.length) h l.length 0).length : Int) := fun k hk => by
        rw [NetLoops_eq k (by omega) hw]
        congr 1
        omega
      have hfin := lawErrors_l0 (by omega) h1 h2 h3 (errF l (ftree n l l.length) h l.length 0) [] true 2002 rfl rfl (by omega)
      rw [LoopErrors_eq 2003 (by omega) hw hp, Option.bind_some, spec_LoopErrors_eq 2003 (by omega) hw hp, Option.bind_some]
      dsimp only
      rw [if_neg (by simp), sameInts_self 2003 _ (by omega) (by omega), Option.bind_some, if_pos rfl, laws_FnLoopErrors.j0, if_neg (by simp), TreeFirst_eq 2002 (by omega) hw, Option.bind_some]
      dsimp only
      rw [e1, Option.bind_some]
      exact hfin
    · have hw2 : wholeB n l = false := Bool.eq_false_iff.2 hw
      rw [impl_LoopErrors_none 2003 (by omega) hw2, Option.bind_some, spec_LoopErrors_none 2003 (by omega) hw2, Option.bind_some]
      dsimp only
      rw [if_neg (by simp), sameInts_self 2003 _ (by simp) (by simp), Option.bind_some, if_pos rfl, laws_FnLoopErrors.j0, if_pos (by simp), if_pos (by simp), sameInts_self 2002 _ (by simp) (by simp), Option.bind_some]
end Go.Proofs.Ytmcfhmflncghiaa.Pure
