/- A merged net is whole just if the net is, and heights that are equal at the merged nodes fit it. -/
import Derived.Test.YtbbpianfoimejaaDrawNets
import Derived.Test.YtbbpianfoimejaaDrawIndex
import Derived.Test.YtbbpianfoimejaaNetFitL
import Derived.Test.YtbbpianfoimejaaMergeE
import Derived.Test.YtbbpianfoimejaaQ33
import Derived.Test.YtbbpianfoimejaaQ34
import Derived.Test.YtbbpianfoimejaaQ38
import Derived.Test.YtbbpianfoimejaaQ4
import Derived.Test.YtbbpianfoimejaaQ5
namespace Go.Proofs.Ytbbpianfoimejaa.Pure
open Go.RowKit Go.Proofs.Ytbbpianfoimejaa.Q Go.Proofs.Ytbbpianfoimejaa.MergeW Go.Proofs.YtbbpianfoimejaaW.PrintWords Go.Proofs.YtbbpianfoimejaaW.PrintLast Go.Proofs.YtbbpianfoimejaaW.PrintMore
theorem msameRuns_l0 (suf : List Run) : ∀ (pre : List Run) (k : Nat), suf.length < k → pre.length + suf.length < 4611686018427387904 → laws_sameRuns.l0 k (pre ++ suf) (pre ++ suf) (pre.length : Int) = some true := by
  induction suf with
  | nil =>
    intro pre k hk _
    obtain ⟨k, rfl⟩ : ∃ m, k = m + 1 := ⟨k - 1, by omega⟩
    simp [laws_sameRuns.l0]
  | cons y suf ih =>
    intro pre k hk hl
    simp only [List.length_cons] at hk hl
    obtain ⟨k, rfl⟩ : ∃ m, k = m + 1 := ⟨k - 1, by omega⟩
    rw [laws_sameRuns.l0, if_pos (len_midR _ _ _), if_pos (by omega), if_pos (len_midR _ _ _), if_neg (by simp), next_midR pre y (by omega), app_midR pre suf y]
    exact ih (pre ++ [y]) k (by omega) (by simp; omega)
theorem msameRuns_self (k : Nat) (l : List Run) (hk : l.length < k) (hl : l.length ≤ 1000000) : laws_sameRuns.f k l l = some true := by
  unfold laws_sameRuns.f
  rw [if_pos rfl]
  exact msameRuns_l0 l [] k hk (by simp; omega)
theorem mtmod50 (x : Int) : -50 ≤ Int.tmod x 50 ∧ Int.tmod x 50 ≤ 50 := by
  have h1 := Int.tmod_lt_of_pos x (show (0 : Int) < 50 by omega)
  have h2 := Int.lt_tmod_of_pos x (show (0 : Int) < 50 by omega)
  omega
theorem msome_l0 {n x : Int} (hn : n ≤ 6) (c : Nat) : ∀ (h : List Int) (i : Int) (k : Nat), n - i = c → (h.length : Int) = i → c < k → (∀ y ∈ h, -50 ≤ y ∧ y ≤ 50) → ∃ h', laws_some.l0 k n x h i = some h' ∧ (h'.length : Int) = n ∧ ∀ y ∈ h', -50 ≤ y ∧ y ≤ 50 := by
  induction c with
  | zero =>
    intro h i k hi hl hk hb
    obtain ⟨k, rfl⟩ : ∃ m, k = m + 1 := ⟨k - 1, by omega⟩
    rw [laws_some.l0, if_neg (by omega)]
    exact ⟨h, rfl, by omega, hb⟩
  | succ c ih =>
    intro h i k hi hl hk hb
    obtain ⟨k, rfl⟩ : ∃ m, k = m + 1 := ⟨k - 1, by omega⟩
    rw [laws_some.l0, if_pos (by omega), if_pos (by omega), nw64 (x := i + 1) (by omega) (by omega)]
    refine ih (h ++ [_]) (i + 1) k (by omega) (by simp; omega) (by omega) (fun y hy => ?_)
    rcases List.mem_append.1 hy with hy | hy
    · exact hb y hy
    · rw [List.mem_singleton.1 hy]; exact mtmod50 _
theorem bd_at {n : Int} {h : List Int} (hh : (h.length : Int) = n) (hb : ∀ y ∈ h, -50 ≤ y ∧ y ≤ 50) (v : Int) (v0 : 0 ≤ v) (v1 : v < n) : -50 ≤ rd h v ∧ rd h v ≤ 50 := by
  obtain ⟨i, rfl⟩ : ∃ i : Nat, v = i := ⟨v.toNat, by omega⟩
  rw [rd_eq h i (by omega)]
  exact hb _ (List.getElem_mem _)
/-- The net whose rises fit heights. -/
def mfitRun (h : List Int) (r : Run) : Run := ⟨r.f0, r.f1, rd h r.f1 - rd h r.f0, r.f3⟩
theorem mfit_l0 {n : Int} {h : List Int} (hh : (h.length : Int) = n) (hb : ∀ y ∈ h, -50 ≤ y ∧ y ≤ 50) (suf : List Run) : ∀ (pre : List Run) (k : Nat), suf.length < k → pre.length + suf.length ≤ 100 → VL n suf →
    laws_fit.l0 k h (pre ++ suf) (pre.length : Int) = some (pre ++ suf.map (mfitRun h)) := by
  induction suf with
  | nil =>
    intro pre k hk _ _
    obtain ⟨k, rfl⟩ : ∃ m, k = m + 1 := ⟨k - 1, by omega⟩
    simp [laws_fit.l0]
  | cons y suf ih =>
    intro pre k hk hl hr
    simp only [List.length_cons] at hk hl
    obtain ⟨k, rfl⟩ : ∃ m, k = m + 1 := ⟨k - 1, by omega⟩
    have hv := hr y List.mem_cons_self
    have b1 := bd_at hh hb y.f1 hv.2.2.1 hv.2.2.2
    have b0 := bd_at hh hb y.f0 hv.1 hv.2.1
    rw [laws_fit.l0, if_pos (len_midR _ _ _), if_pos (by omega)]
    simp only [rd_midR]
    rw [if_pos (by omega), if_pos (by omega), if_pos (by omega), if_pos (by omega), nw64 (x := rd h y.f1 - rd h y.f0) (by omega) (by omega), set_midR, next_midR pre y (by omega)]
    have := ih (pre ++ [mfitRun h y]) k (by omega) (by simp; omega) (fun r hm => hr r (List.mem_cons_of_mem _ hm))
    rw [show ((pre ++ [y]).length : Int) = ((pre ++ [mfitRun h y]).length : Int) by simp, show pre ++ (⟨y.f0, y.f1, rd h y.f1 - rd h y.f0, y.f3⟩ : Run) :: suf = (pre ++ [mfitRun h y]) ++ suf by simp [mfitRun], this]
    simp
theorem DrawNetMerge_ok (k : Nat) (hk : 200 < k) {bs : List Int} (hbs : ∀ x ∈ bs, (Lit.int .u8 x).wf = true) : ∃ n x i, spec_DrawNetMerge.f k bs = some (n, x, i) ∧ x.length ≤ 20 := by
  obtain ⟨k, rfl⟩ : ∃ j, k = j + 2 := ⟨k - 2, by omega⟩
  unfold spec_DrawNetMerge.f
  obtain ⟨b, h0, hb⟩ := open_ok hbs
  rw [h0]; simp only [Option.bind_some]
  obtain ⟨n, x, q, e, q0, q1, hl, _, _⟩ := l91Net_ok (k + 2) hb (p := 0) (m := 5) (by omega) (by omega) (by omega)
  rw [e]; simp only [Option.bind_some]
  obtain ⟨i, q', e', _, _, _, _⟩ := l91Index_ok k hb (p := q) (m := x.length) (by omega) (by omega)
  rw [e']; simp only [Option.bind_some]
  exact ⟨_, _, _, rfl, hl⟩
/-! the numbers of the nodes -/
theorem num_eq {lo hi x : Int} (h0 : 0 ≤ x) (h1 : x ≤ 1000) : num lo hi x = if x = hi then lo else if x > hi then x - 1 else x := by
  unfold num
  rw [nw64 (x := x - 1) (by omega) (by omega)]
/-- Back. -/
def bk (hi x : Int) : Int := if x < hi then x else x + 1
structure Ends (n lo hi : Int) : Prop where
  lo0 : 0 ≤ lo
  lt : lo < hi
  hi1 : hi < n
  n6 : n ≤ 6
theorem num_bk {n lo hi x : Int} (h : Ends n lo hi) (h0 : 0 ≤ x) (h1 : x < n) : num lo hi (bk hi x) = x := by
  have := h.n6
  unfold bk
  split
  · rw [num_eq (by omega) (by omega), if_neg (by omega), if_neg (by omega)]
  · rw [num_eq (by omega) (by omega), if_neg (by omega), if_pos (by omega)]; omega
theorem bk_num {n lo hi x : Int} (h : Ends n lo hi) (h0 : 0 ≤ x) (h1 : x < n) : bk hi (num lo hi x) = if x = hi then lo else x := by
  have := h.n6; have := h.lt
  rw [num_eq (by omega) (by omega)]
  by_cases c : x = hi
  · rw [if_pos c, if_pos c]; unfold bk; rw [if_pos h.lt]
  · rw [if_neg c, if_neg c]
    by_cases d : x > hi
    · rw [if_pos d]; unfold bk; rw [if_neg (by omega)]; omega
    · rw [if_neg d]; unfold bk; rw [if_pos (by omega)]
theorem num_range {n lo hi x : Int} (h : Ends n lo hi) (h0 : 0 ≤ x) (h1 : x < n) : 0 ≤ num lo hi x ∧ num lo hi x < n - 1 := by
  have := h.n6; have := h.lt; have := h.hi1; have := h.lo0
  rw [num_eq (by omega) (by omega)]
  split
  · omega
  · split <;> omega
theorem mem_mgs {lo hi : Int} {l : List Run} {r' : Run} : r' ∈ mgs lo hi l ↔ ∃ r ∈ l, num lo hi r.f0 ≠ num lo hi r.f1 ∧ r' = ⟨num lo hi r.f0, num lo hi r.f1, r.f2, r.f3⟩ := by
  unfold mgs
  rw [List.mem_flatMap]
  constructor
  · rintro ⟨r, hr, h⟩
    unfold mgo at h
    split at h
    · simp at h
    · next c => exact ⟨r, hr, c, by simpa using h⟩
  · rintro ⟨r, hr, c, rfl⟩
    exact ⟨r, hr, by unfold mgo; rw [if_neg c]; simp⟩
theorem rvB_of {n : Int} {r : Run} : rvB n r = true ↔ (0 ≤ r.f0 ∧ r.f0 < n ∧ 0 ≤ r.f1 ∧ r.f1 < n ∧ r.f0 ≠ r.f1) ∧ (-100000 ≤ r.f2 ∧ r.f2 ≤ 100000) ∧ 1 ≤ r.f3 ∧ r.f3 ≤ 9 := by
  unfold rvB; exact decide_eq_true_iff
theorem nvB_of {n : Int} {l : List Run} : nvB n l = true ↔ (2 ≤ n ∧ n ≤ 6 ∧ l.length ≤ 12) ∧ ∀ r ∈ l, rvB n r = true := by
  unfold nvB; rw [Bool.and_eq_true, decide_eq_true_iff, List.all_eq_true]
theorem mgs_valid {n lo hi : Int} {l : List Run} (h : Ends n lo hi) (hv : nvB n l = true) (h3 : 3 ≤ n) : nvB (n - 1) (mgs lo hi l) = true := by
  have hv' := nvB_of.1 hv
  rw [nvB_of]
  refine ⟨⟨by omega, by omega, Nat.le_trans (mgs_len _ _ _) hv'.1.2.2⟩, fun r' hr' => ?_⟩
  obtain ⟨r, hr, c, rfl⟩ := mem_mgs.1 hr'
  have hb := rvB_of.1 (hv'.2 r hr)
  have a := num_range h hb.1.1 hb.1.2.1
  have b := num_range h hb.1.2.2.1 hb.1.2.2.2.1
  rw [rvB_of]
  exact ⟨⟨a.1, a.2, b.1, b.2, c⟩, hb.2.1, hb.2.2⟩
theorem lk_down {lo hi : Int} {l : List Run} {a b : Int} (k : Lk l a b) : Lk (mgs lo hi l) (num lo hi a) (num lo hi b) := by
  induction k with
  | refl => exact .refl _
  | @fwd r hm _ ih =>
    by_cases c : num lo hi r.f0 = num lo hi r.f1
    · rw [← c]; exact ih
    · exact .fwd (r := ⟨num lo hi r.f0, num lo hi r.f1, r.f2, r.f3⟩) (mem_mgs.2 ⟨r, hm, c, rfl⟩) ih
  | @bwd r hm _ ih =>
    by_cases c : num lo hi r.f0 = num lo hi r.f1
    · rw [c]; exact ih
    · exact .bwd (r := ⟨num lo hi r.f0, num lo hi r.f1, r.f2, r.f3⟩) (mem_mgs.2 ⟨r, hm, c, rfl⟩) ih
theorem lk_bk {n lo hi : Int} {l : List Run} (h : Ends n lo hi) (hk : Lk l lo hi) {a : Int} (h0 : 0 ≤ a) (h1 : a < n) : Lk l (bk hi (num lo hi a)) a := by
  rw [bk_num h h0 h1]
  split
  · next c => rw [c]; exact hk
  · exact .refl _
theorem lk_up {n lo hi : Int} {l : List Run} (h : Ends n lo hi) (hv : VL n l) (hk : Lk l lo hi) {x y : Int} (k : Lk (mgs lo hi l) x y) : Lk l (bk hi x) (bk hi y) := by
  induction k with
  | refl => exact .refl _
  | fwd hm _ ih =>
    obtain ⟨r, hr, _, rfl⟩ := mem_mgs.1 hm
    have hb := hv r hr
    exact ih.trans ((lk_bk h hk hb.1 hb.2.1).trans ((Lk.run hr).trans (lk_bk h hk hb.2.2.1 hb.2.2.2).symm))
  | bwd hm _ ih =>
    obtain ⟨r, hr, _, rfl⟩ := mem_mgs.1 hm
    have hb := hv r hr
    exact ih.trans ((lk_bk h hk hb.2.2.1 hb.2.2.2).trans ((Lk.run hr).symm.trans (lk_bk h hk hb.1 hb.2.1).symm))
theorem whole_merge {n lo hi : Int} {l : List Run} (h : Ends n lo hi) (hv : nvB n l = true) (h3 : 3 ≤ n) (hk : Lk l lo hi) : wholeB (n - 1) (mgs lo hi l) = wholeB n l := by
  rw [Bool.eq_iff_iff, wholeB_iff, wholeB_iff]
  have a0 := h.lo0; have a1 := h.lt; have a2 := h.hi1; have a3 := h.n6
  have n0 : num lo hi 0 = 0 := by rw [num_eq (by omega) (by omega), if_neg (by omega), if_neg (by omega)]
  have b0 : bk hi 0 = 0 := by unfold bk; rw [if_pos (by omega)]
  constructor
  · rintro ⟨_, hw⟩
    refine ⟨hv, fun v v0 v1 => ?_⟩
    have hr := num_range h v0 v1
    have := lk_up h (nvB_VL hv) hk (hw _ hr.1 hr.2)
    rw [b0] at this
    exact this.trans (lk_bk h hk v0 v1)
  · rintro ⟨_, hw⟩
    refine ⟨mgs_valid h hv h3, fun x x0 x1 => ?_⟩
    have hb : 0 ≤ bk hi x ∧ bk hi x < n := by unfold bk; split <;> omega
    have := lk_down (lo := lo) (hi := hi) (hw _ hb.1 hb.2)
    rwa [n0, num_bk h x0 (by omega)] at this
/-! heights -/
theorem less_at {n lo hi : Int} {h : List Int} (hE : Ends n lo hi) (hh : (h.length : Int) = n) {a : Int} (a0 : 0 ≤ a) (a1 : a < n) :
    rd ((h.set hi.toNat (rd h lo)).take hi.toNat ++ (h.set hi.toNat (rd h lo)).drop (hi + 1).toNat) (num lo hi a) = rd (h.set hi.toNat (rd h lo)) a := by
  have b0 := hE.lo0; have b1 := hE.lt; have b2 := hE.hi1; have b3 := hE.n6
  have hset : ∀ v, 0 ≤ v → v < n → rd (h.set hi.toNat (rd h lo)) v = if v = hi then rd h lo else rd h v := fun v v0 v1 => rd_set h hi v _ (by omega) v0 (by omega)
  have hl : (h.set hi.toNat (rd h lo)).length = h.length := List.length_set
  generalize h.set hi.toNat (rd h lo) = g at hset hl ⊢
  have hbefore : ∀ v, 0 ≤ v → v < hi → rd (g.take hi.toNat ++ g.drop (hi + 1).toNat) v = rd g v := fun v v0 v1 => by
    unfold rd
    rw [List.getD_eq_getElem?_getD, List.getD_eq_getElem?_getD, List.getElem?_append_left (by rw [List.length_take]; omega), List.getElem?_take, if_pos (by omega)]
  rw [num_eq a0 (by omega)]
  split
  · next c =>
    rw [hbefore lo b0 b1, hset lo b0 (by omega), hset a a0 a1, if_neg (by omega), if_pos c]
  · next c =>
    split
    · next d =>
      unfold rd
      rw [List.getD_eq_getElem?_getD, List.getD_eq_getElem?_getD, List.getElem?_append_right (by rw [List.length_take]; omega), List.getElem?_drop, List.length_take]
      congr 2
      omega
    · exact hbefore a a0 (by omega)
theorem FnTreesMerge : laws_FnTreesMerge.Pure := by
  intro l0 l1 _ _ hl0 _ _ _
  refine ⟨1003, ?_⟩
  unfold laws_FnTreesMerge.f
  split
  · simp [laws_FnTreesMerge.j0]
  · by_cases h1 : (l1.length : Int) > 1048576
    · rw [decide_eq_true h1]; simp [laws_FnTreesMerge.j0]
    · rw [decide_eq_false h1, laws_FnTreesMerge.j0, if_neg (by simp)]
      obtain ⟨n, l, q, hd, hl20⟩ := DrawNetMerge_ok 1002 (by omega) hl0
      rw [hd, Option.bind_some]
      have ei : ∀ l, impl_NetMerge.f n l q = some (mrR n l q) := fun _ => rfl
      have es : spec_NetMerge.f n l q = some (mrR n l q) := rfl
      dsimp only
      rw [ei, es, Option.bind_some, Option.bind_some]
      have hml : (mrR n l q).2.1.length ≤ 20 := by
        unfold mrR; split
        · exact Nat.le_trans (mgs_len _ _ _) hl20
        · simp
      rw [if_neg (by simp), if_pos rfl, msameRuns_self _ _ (by omega) (by omega), Option.bind_some, if_pos rfl, laws_FnTreesMerge.j1]
      by_cases hc : nvB n l = true ∧ 0 ≤ q ∧ q < l.length ∧ 3 ≤ n
      · obtain ⟨hv, q0, q1, h3⟩ := hc
        have hnn := nvB_n hv
        have hm : mrR n l q = (n - 1, mgs (loK l q) (hiK l q) l, true) := by unfold mrR; rw [if_pos ⟨hv, q0, q1, h3⟩]
        rw [hm, if_neg (by simp)]
        obtain ⟨N, rfl⟩ : ∃ N : Nat, n = N := ⟨n.toNat, by omega⟩
        obtain ⟨h, eh, hh, hb⟩ := msome_l0 (n := (N : Int)) (x := (l1.length : Int)) (by omega) N [] 0 1001 (by omega) rfl (by omega) (by simp)
        have eh' : laws_some.f 1001 (N : Int) (l1.length : Int) = some h := eh
        have hmem : rd_T46 l q ∈ l := by
          obtain ⟨j, rfl⟩ : ∃ j : Nat, q = j := ⟨q.toNat, by omega⟩
          have hj : j < l.length := by omega
          simp [rd_T46, hj]
        have hr := rvB_of.1 ((nvB_of.1 hv).2 _ hmem)
        have emn : mn (rd_T46 l q).f0 (rd_T46 l q).f1 = loK l q := by unfold mn loK; split <;> omega
        have emx : mx (rd_T46 l q).f0 (rd_T46 l q).f1 = hiK l q := by unfold mx hiK; split <;> omega
        have hE : Ends N (loK l q) (hiK l q) := ⟨by unfold loK; omega, by unfold loK hiK; omega, by unfold hiK; omega, by omega⟩
        have hlk : Lk l (loK l q) (hiK l q) := by
          rcases Int.le_total (rd_T46 l q).f0 (rd_T46 l q).f1 with c | c
          · have e1 : loK l q = (rd_T46 l q).f0 := by unfold loK; omega
            have e2 : hiK l q = (rd_T46 l q).f1 := by unfold hiK; omega
            rw [e1, e2]; exact Lk.run hmem
          · have e1 : loK l q = (rd_T46 l q).f1 := by unfold loK; omega
            have e2 : hiK l q = (rd_T46 l q).f0 := by unfold hiK; omega
            rw [e1, e2]; exact (Lk.run hmem).symm
        rw [emn, emx]
        have hwm := whole_merge hE hv h3 hlk
        generalize hlo : loK l q = lo at *
        generalize hhi : hiK l q = hi at *
        have a0 := hE.lo0; have a1 := hE.lt; have a2 := hE.hi1
        dsimp only
        rw [eh', Option.bind_some, if_pos q0, if_pos (by omega), if_pos a0, if_pos (by omega), if_pos (by omega), if_pos (by omega), Option.bind_some]
        have hset : ∀ v, 0 ≤ v → v < (N : Int) → rd (h.set hi.toNat (rd h lo)) v = if v = hi then rd h lo else rd h v := fun v v0 v1 => rd_set h hi v _ (by omega) v0 (by omega)
        have hh2 : ((h.set hi.toNat (rd h lo)).length : Int) = N := by rw [List.length_set]; exact hh
        have hb2 : ∀ y ∈ h.set hi.toNat (rd h lo), -50 ≤ y ∧ y ≤ 50 := fun y hy => by
          rcases List.mem_or_eq_of_mem_set hy with z | z
          · exact hb y z
          · rw [z]; exact bd_at hh hb lo a0 (by omega)
        have hla := fun a (a0 : 0 ≤ a) (a1 : a < (N : Int)) => less_at hE hh a0 a1
        generalize hg : h.set hi.toNat (rd h lo) = g at *
        have ef : laws_fit.f 1001 l g = some (l.map (mfitRun g)) := by
          unfold laws_fit.f
          simp only [Option.bind_some, List.nil_append, List.length_nil]
          rw [if_pos (by omega)]
          exact mfit_l0 hh2 hb2 l [] 1001 (by omega) (by simp; omega) (nvB_VL hv)
        have hvf : nvB (N : Int) (l.map (mfitRun g)) = true := by
          rw [nvB_of]
          refine ⟨by rw [List.length_map]; exact hnn, fun x hx => ?_⟩
          obtain ⟨r, hr2, rfl⟩ := List.mem_map.1 hx
          have hrv := rvB_of.1 ((nvB_of.1 hv).2 r hr2)
          have b1 := bd_at hh2 hb2 r.f1 hrv.1.2.2.1 hrv.1.2.2.2.1
          have b0 := bd_at hh2 hb2 r.f0 hrv.1.1 hrv.1.2.1
          rw [rvB_of]; unfold mfitRun; simp only; omega
        have erd : rd_T46 (l.map (mfitRun g)) q = mfitRun g (rd_T46 l q) := by
          obtain ⟨j, rfl⟩ : ∃ j : Nat, q = j := ⟨q.toNat, by omega⟩
          have hj : j < l.length := by omega
          simp [rd_T46, hj]
        have elo : loK (l.map (mfitRun g)) q = lo := by rw [← hlo]; unfold loK; rw [erd]; rfl
        have ehi : hiK (l.map (mfitRun g)) q = hi := by rw [← hhi]; unfold hiK; rw [erd]; rfl
        have hmf : impl_NetMerge.f N (l.map (mfitRun g)) q = some ((N : Int) - 1, mgs lo hi (l.map (mfitRun g)), true) := by
          show some (mrR N (l.map (mfitRun g)) q) = _
          unfold mrR
          rw [if_pos ⟨hvf, q0, by rw [List.length_map]; exact q1, h3⟩, elo, ehi]
        rw [ef, Option.bind_some, hmf, Option.bind_some, Option.bind_some, if_pos (by omega), Option.bind_some]
        have e1 : wrap64 (hi + 1) = hi + 1 := nw64 (by omega) (by omega)
        rw [e1]
        rw [if_pos (by simp; omega), Option.bind_some, if_pos (by omega), if_pos (by omega), Option.bind_some, if_pos (by simp; omega), if_pos rfl]
        rw [NetWhole_eq _ _ _ (by omega), NetWhole_eq _ _ _ (by omega), Option.bind_some, Option.bind_some, hwm, if_pos (by simp)]
        rw [List.nil_append]
        have hvx := mgs_valid hE hvf h3
        have hlen : ((g.take hi.toNat ++ g.drop (hi + 1).toNat).length : Int) = (N : Int) - 1 := by simp; omega
        have hin : hIn (g.take hi.toNat ++ g.drop (hi + 1).toNat) := fun x hx => by
          have : x ∈ g := by
            rcases List.mem_append.1 hx with z | z
            · exact List.mem_of_mem_take z
            · exact List.mem_of_mem_drop z
          have := hb2 x this
          omega
        have hp : pot (rd (g.take hi.toNat ++ g.drop (hi + 1).toNat)) (mgs lo hi (l.map (mfitRun g))) := fun r' hr' => by
          obtain ⟨r, hr2, c, rfl⟩ := mem_mgs.1 hr'
          obtain ⟨r0, hr0, rfl⟩ := List.mem_map.1 hr2
          have hrv := nvB_VL hv r0 hr0
          show rd _ (num lo hi r0.f1) - rd _ (num lo hi r0.f0) = rd g r0.f1 - rd g r0.f0
          rw [hla r0.f1 hrv.2.2.1 hrv.2.2.2, hla r0.f0 hrv.1 hrv.2.1]
        rw [(NetFits_true 1001 _ _ _ (by omega) hvx hlen hin).1.2 hp, Option.bind_some]
      · have hm : mrR n l q = (0, [], false) := by unfold mrR; rw [if_neg hc]
        rw [hm, if_pos (by simp), if_pos (by simp), if_pos rfl, msameRuns_self _ _ (by simp) (by simp), Option.bind_some]
end Go.Proofs.Ytbbpianfoimejaa.Pure
