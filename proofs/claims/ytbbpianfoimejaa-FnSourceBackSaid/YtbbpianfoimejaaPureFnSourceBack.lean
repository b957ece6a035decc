/- A run turned around changes no source; and a source loses, with a run, just what the run adds. -/
import Derived.Test.YtbbpianfoimejaaDrawNets
import Derived.Test.YtbbpianfoimejaaNetSource
import Derived.Test.YtbbpianfoimejaaNetWithout
import Derived.Test.YtbbpianfoimejaaQ27
import Derived.Test.YtbbpianfoimejaaQ28
import Derived.Test.YtbbpianfoimejaaQ29
import Derived.Test.YtbbpianfoimejaaQ30
import Derived.Test.YtbbpianfoimejaaQ4
namespace Go.Proofs.Ytbbpianfoimejaa.Pure
open Go.RowKit Go.Proofs.Ytbbpianfoimejaa.Q Go.Proofs.YtbbpianfoimejaaW.PrintWords Go.Proofs.YtbbpianfoimejaaW.PrintLast

theorem sameRuns_l0 (suf : List Run) : ∀ (pre : List Run) (k : Nat), suf.length < k → pre.length + suf.length < 4611686018427387904 → laws_sameRuns.l0 k (pre ++ suf) (pre ++ suf) (pre.length : Int) = some true := by
  induction suf with
  | nil =>
    intro pre k hk _
    obtain ⟨k, rfl⟩ : ∃ m, k = m + 1 := ⟨k - 1, by omega⟩
    simp [laws_sameRuns.l0]
  | cons y suf ih =>
    intro pre k hk hl
    simp only [List.length_cons] at hk hl
    obtain ⟨k, rfl⟩ : ∃ m, k = m + 1 := ⟨k - 1, by omega⟩
    rw [laws_sameRuns.l0, if_pos (len_midR _ _ _), if_pos (by omega), if_pos (len_midR _ _ _), if_neg (by simp), next_midR pre y (by omega), app_midR pre suf y]
    exact ih (pre ++ [y]) k (by omega) (by simp; omega)
theorem sameRuns_self (k : Nat) (l : List Run) (hk : l.length < k) (hl : l.length ≤ 1000000) : laws_sameRuns.f k l l = some true := by
  unfold laws_sameRuns.f
  rw [if_pos rfl]
  exact sameRuns_l0 l [] k hk (by simp; omega)
theorem sameInts_l0 (suf : List Int) : ∀ (pre : List Int) (k : Nat), suf.length < k → pre.length + suf.length < 4611686018427387904 → laws_sameInts.l0 k (pre ++ suf) (pre ++ suf) (pre.length : Int) = some true := by
  induction suf with
  | nil =>
    intro pre k hk _
    obtain ⟨k, rfl⟩ : ∃ m, k = m + 1 := ⟨k - 1, by omega⟩
    simp [laws_sameInts.l0]
  | cons y suf ih =>
    intro pre k hk hl
    simp only [List.length_cons] at hk hl
    obtain ⟨k, rfl⟩ : ∃ m, k = m + 1 := ⟨k - 1, by omega⟩
    rw [laws_sameInts.l0, if_pos (len_mid _ _ _), if_pos (by omega), if_pos (len_mid _ _ _), if_pos rfl, next_mid pre y (by omega), app_mid pre suf y]
    exact ih (pre ++ [y]) k (by omega) (by simp; omega)
theorem sameInts_self (k : Nat) (l : List Int) (hk : l.length < k) (hl : l.length ≤ 1000000) : laws_sameInts.f k l l = some true := by
  unfold laws_sameInts.f
  rw [if_pos rfl]
  exact sameInts_l0 l [] k hk (by simp; omega)

/-- A run turned around. -/
def revRun (r : Run) : Run := ⟨r.f1, r.f0, -r.f2, r.f3⟩
theorem contrib_rev (r : Run) (j : Int) : contrib (revRun r) j = contrib r j := by
  show (if r.f0 = j then r.f3 * -r.f2 else 0) - (if r.f1 = j then r.f3 * -r.f2 else 0) = (if r.f1 = j then r.f3 * r.f2 else 0) - (if r.f0 = j then r.f3 * r.f2 else 0)
  rw [Int.mul_neg]
  split <;> split <;> omega
theorem rev_valid {n : Int} {r : Run} (h : rvB n r = true) : rvB n (revRun r) = true := by
  have := rvB_iff.1 h
  rw [rvB_iff]; unfold revRun; simp only; omega

theorem DrawNetWithout_ok (k : Nat) (hk : 200 < k) {bs : List Int} (hbs : ∀ x ∈ bs, (Lit.int .u8 x).wf = true) : ∃ n x i, spec_DrawNetWithout.f k bs = some (n, x, i) ∧ x.length ≤ 20 := by
  obtain ⟨k, rfl⟩ : ∃ j, k = j + 2 := ⟨k - 2, by omega⟩
  unfold spec_DrawNetWithout.f spec_DrawNetBack.f
  obtain ⟨b, h0, hb⟩ := open_ok hbs
  rw [h0]; simp only [Option.bind_some]
  obtain ⟨n, x, q, e, q0, q1, hl, _, _⟩ := l91Net_ok (k + 2) hb (p := 0) (m := 6) (by omega) (by omega) (by omega)
  rw [e]; simp only [Option.bind_some]
  obtain ⟨i, q', e', _, _, _, _⟩ := l91Index_ok k hb (p := q) (m := x.length) (by omega) (by omega)
  rw [e']; simp only [Option.bind_some]
  exact ⟨_, _, _, rfl, hl⟩

theorem Back_l0 {n : Int} {l w : List Run} {r : Run} {s t : List Int} (hn : 2 ≤ n ∧ n ≤ 6) (hr : rvB n r = true) (hl12 : l.length ≤ 12) (hlv : ∀ r ∈ l, rvB n r = true) (hw12 : w.length ≤ 12) (hwv : ∀ r ∈ w, rvB n r = true)
    (hs : s = tab (n.toNat - 1) (fun i => srcE l ((i : Int) + 1))) (ht : t = tab (n.toNat - 1) (fun i => srcE w ((i : Int) + 1))) (hlw : ∀ j, srcE l j = srcE w j + contrib r j) (hwl : (w.length : Int) = (l.length : Int) - 1)
    (m : Nat) : ∀ (j : Int) (k : Nat), n - j = m → 1 ≤ j → 3 * m + 20 < k → laws_FnSourceBack.l0 k n l w true s true s true t true j r.f0 r.f1 r.f2 r.f3 = some true := by
  have hv := rvB_iff.1 hr
  have hwr := wr_bd hr
  have hsl : s.length = n.toNat - 1 := by rw [hs, tab_length]
  have htl : t.length = n.toNat - 1 := by rw [ht, tab_length]
  induction m with
  | zero =>
    intro j k hm hj hk
    obtain ⟨k, rfl⟩ : ∃ q, k = q + 2 := ⟨k - 2, by omega⟩
    rw [laws_FnSourceBack.l0, if_neg (by omega), laws_FnSourceBack.j2, if_neg (by simp), if_pos rfl, if_pos rfl, if_pos rfl, if_pos rfl, sameInts_self _ _ (by omega) (by omega)]
    simp only [Option.bind_some]
    rw [if_pos trivial, nw64 (x := (l.length : Int) - 1) (by omega) (by omega), hwl]
    simp
  | succ m ih =>
    intro j k hm hj hk
    obtain ⟨k, rfl⟩ : ∃ q, k = q + 3 := ⟨k - 3, by omega⟩
    obtain ⟨i, hi⟩ : ∃ i : Nat, j = (i : Int) + 1 := ⟨(j - 1).toNat, by omega⟩
    have h1 : rd s (i : Int) = srcE l j := by rw [hs, rd_tab (by omega), hi]
    have h2 : rd t (i : Int) = srcE w j := by rw [ht, rd_tab (by omega), hi]
    have b1 := srcE_bd l hlv j
    have b2 := srcE_bd w hwv j
    have hd := hlw j
    rw [laws_FnSourceBack.l0, if_pos (by omega), if_pos rfl, laws_FnSourceBack.j2, if_pos rfl, hwr.2.2]
    have ej : wrap64 (j - 1) = (i : Int) := by rw [nw64 (by omega) (by omega)]; omega
    have ed : wrap64 (rd s (i : Int) - rd t (i : Int)) = contrib r j := by rw [h1, h2, nw64 (by omega) (by omega)]; omega
    have e1 : wrap64 (j + 1) = j + 1 := nw64 (by omega) (by omega)
    have eneg : wrap64 (-(wr r)) = -(wr r) := nw64 (by omega) (by omega)
    have next := ih (j + 1) k (by omega) (by omega) (by omega)
    have hj3 : ∀ x20 : Int, (j ≠ r.f0 → x20 = contrib r j) → laws_FnSourceBack.j3 (k + 1) n l w true s true s true t true j x20 r.f0 r.f1 r.f2 r.f3 = some true := by
      intro x20 hx
      rw [laws_FnSourceBack.j3, ej, ed, hwr.2.2, eneg, e1]
      by_cases c : j = r.f0
      · have : contrib r j = -(wr r) := by unfold contrib; rw [if_pos c.symm, if_neg (by omega)]; omega
        rw [if_pos c, if_pos (by omega), if_pos (by omega), if_pos (by omega), if_pos this]
        exact next
      · rw [if_neg c, if_pos (by omega), if_pos (by omega), if_pos (by omega), if_pos (hx c).symm]
        exact next
    by_cases c1 : j = r.f1
    · rw [if_pos c1]
      exact hj3 _ (fun c => by unfold contrib; rw [if_pos c1.symm, if_neg (fun q => c q.symm)]; omega)
    · rw [if_neg c1]
      exact hj3 _ (fun c => by unfold contrib; rw [if_neg (fun q => c1 q.symm), if_neg (fun q => c q.symm)]; omega)

theorem impl_NetBack_eq (q : Nat) (n : Int) (l : List Run) (k : Int) (hq : 20 < q) (hv : nvB n l = true) (h0 : 0 ≤ k) (h1 : k < l.length) : impl_NetBack.f q n l k = some (l.set k.toNat (revRun (rd_T46 l k)), true) := by
  have hl := (nvB_iff.1 hv).1.2.2
  have hr : rvB n (rd_T46 l k) = true := by
    have e : rd_T46 l k = l[k.toNat]'(by omega) := by simp [rd_T46, show k.toNat < l.length by omega]
    rw [e]; exact (nvB_iff.1 hv).2 _ (List.getElem_mem _)
  have hv' := rvB_iff.1 hr
  simp only [impl_NetBack.f, hasRun_eq q n l k hq, Option.bind_some]
  rw [if_pos (by simpa using ⟨hv, h0, h1⟩), if_pos (by simp; omega), if_pos h0, if_pos h1, if_pos (by simpa using h1), nw64 (x := -(rd_T46 l k).f2) (by omega) (by omega)]
  simp [revRun]

theorem FnSourceBack : laws_FnSourceBack.Pure := by
  intro l0 _ _ hl0
  refine ⟨1003, ?_⟩
  unfold laws_FnSourceBack.f
  split
  · rfl
  · obtain ⟨n, l, i, hd, hl20⟩ := DrawNetWithout_ok 1003 (by omega) hl0
    rw [hd]; simp only [Option.bind_some]
    rw [spec_NetWithout_eq _ _ _ _ (by omega), impl_NetWithout_eq _ _ _ _ (by omega)]
    simp only [Option.bind_some]
    have hwl := withoutR_length n l i
    rw [if_neg (by simp), sameRuns_self _ _ (by omega) (by omega)]
    simp only [Option.bind_some]
    rw [if_pos trivial, laws_FnSourceBack.j0]
    by_cases h : nvB n l = true ∧ 0 ≤ i ∧ i < l.length
    · have hw : withoutR n l i = (l.take i.toNat ++ l.drop (i.toNat + 1), true) := by unfold withoutR; rw [if_pos h]
      rw [hw, if_neg (by simp)]
      obtain ⟨hv, h0, h1⟩ := h
      have hn := (nvB_iff.1 hv).1
      have hall := (nvB_iff.1 hv).2
      rw [impl_NetBack_eq _ n l i (by omega) hv h0 h1]
      simp only [Option.bind_some]
      rw [impl_NetSource_eq _ _ _ (by omega), impl_NetSource_eq _ _ _ (by omega), impl_NetSource_eq _ _ _ (by omega)]
      simp only [Option.bind_some]
      have hiN : i.toNat < l.length := by omega
      have er : rd_T46 l i = l[i.toNat] := by simp [rd_T46, hiN]
      have hr : rvB n (rd_T46 l i) = true := by rw [er]; exact hall _ (List.getElem_mem _)
      generalize hrr : rd_T46 l i = r at *
      have hsplit : l = l.take i.toNat ++ r :: l.drop (i.toNat + 1) := by
        rw [er]; simp
      have hset : l.set i.toNat (revRun r) = l.take i.toNat ++ revRun r :: l.drop (i.toNat + 1) := by
        rw [List.set_eq_take_append_cons_drop, if_pos hiN]
      have hvb : nvB n (l.set i.toNat (revRun r)) = true := by
        rw [nvB_iff]
        refine ⟨by simp; omega, fun x hx => ?_⟩
        rcases List.mem_or_eq_of_mem_set hx with hx | rfl
        · exact hall x hx
        · exact rev_valid hr
      have hvw : nvB n (l.take i.toNat ++ l.drop (i.toNat + 1)) = true := by
        rw [nvB_iff]
        refine ⟨by simp; omega, fun x hx => ?_⟩
        rcases List.mem_append.1 hx with hx | hx
        · exact hall x (List.mem_of_mem_take hx)
        · exact hall x (List.mem_of_mem_drop hx)
      have hlw : ∀ j, srcE l j = srcE (l.take i.toNat ++ l.drop (i.toNat + 1)) j + contrib r j := by
        intro j
        conv => lhs; rw [hsplit]
        rw [srcE_append, srcE_append]; simp only [srcE]; omega
      have hlb : ∀ j, srcE (l.set i.toNat (revRun r)) j = srcE l j := by
        intro j
        rw [hset, srcE_append, hlw, srcE_append]; simp only [srcE]; rw [contrib_rev]; omega
      have hS : sourceR n l = (tab (n.toNat - 1) (fun i => srcE l ((i : Int) + 1)), true) := by unfold sourceR; rw [if_pos hv]
      have hB : sourceR n (l.set i.toNat (revRun r)) = (tab (n.toNat - 1) (fun i => srcE l ((i : Int) + 1)), true) := by unfold sourceR; rw [if_pos hvb]; simp only [hlb]
      have hW : sourceR n (l.take i.toNat ++ l.drop (i.toNat + 1)) = (tab (n.toNat - 1) (fun j => srcE (l.take i.toNat ++ l.drop (i.toNat + 1)) ((j : Int) + 1)), true) := by unfold sourceR; rw [if_pos hvw]
      rw [hS, hB, hW, if_pos h0, if_pos h1]
      exact Back_l0 ⟨hn.1, hn.2.1⟩ hr hn.2.2 hall (nvB_iff.1 hvw).1.2.2 (nvB_iff.1 hvw).2 rfl rfl hlw (by simp; omega) (n - 1).toNat 1 1002 (by omega) (by omega) (by omega)
    · have hw : withoutR n l i = ([], false) := by unfold withoutR; rw [if_neg h]
      rw [hw, if_pos (by simp), if_pos (by simp), sameRuns_self _ _ (by simp) (by simp)]
      rfl
end Go.Proofs.Ytbbpianfoimejaa.Pure
