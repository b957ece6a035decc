/- NetFits and NetWhole in closed form. -/
import Derived.Test.YtbbpianfoimejaaLinkL
import Derived.Test.YtbbpianfoimejaaLinkP
import Derived.Test.YtbbpianfoimejaaQ3
import Derived.Test.YtbbpianfoimejaaQ36
import Derived.Test.YtbbpianfoimejaaQ37
namespace Go.Proofs.Ytbbpianfoimejaa.Pure
open Go.RowKit Go.Proofs.Ytbbpianfoimejaa.Q Go.Proofs.YtbbpianfoimejaaW.PrintWords Go.Proofs.YtbbpianfoimejaaW.PrintLast Go.Proofs.YtbbpianfoimejaaW.PrintMore
section
variable (pre suf : List Int) (y : Int)
theorem len_midI : (pre.length : Int) < ((pre ++ y :: suf).length : Int) := by simp; omega
theorem rd_midI : rd (pre ++ y :: suf) (pre.length : Int) = y := by simp [rd]
theorem app_midI : pre ++ y :: suf = (pre ++ [y]) ++ suf := by simp
theorem next_midI (h : pre.length < 4611686018427387904) : wrap64 ((pre.length : Int) + 1) = ((pre ++ [y]).length : Int) := by
  unfold wrap64; simp; omega
end
def hIn (h : List Int) : Prop := ∀ x ∈ h, -1000000 ≤ x ∧ x ≤ 1000000
instance (h : List Int) : Decidable (hIn h) := by unfold hIn; infer_instance
theorem nheights_l0 (suf : List Int) : ∀ (pre : List Int) (k : Nat), suf.length < k → pre.length + suf.length < 4611686018427387904 →
    impl_heightsValid.l0 k (pre ++ suf) ((pre ++ suf).length : Int) (pre.length : Int) = some (decide (hIn suf)) := by
  induction suf with
  | nil =>
    intro pre k hk _
    obtain ⟨k, rfl⟩ : ∃ m, k = m + 1 := ⟨k - 1, by omega⟩
    simp [impl_heightsValid.l0, hIn]
  | cons y suf ih =>
    intro pre k hk hl
    simp only [List.length_cons] at hk hl
    obtain ⟨k, rfl⟩ : ∃ m, k = m + 1 := ⟨k - 1, by omega⟩
    simp only [impl_heightsValid.l0]
    rw [if_pos (len_midI _ _ _), if_pos (by omega), if_pos (len_midI _ _ _), rd_midI, nwithin_eq _ _ (by omega) (by omega)]
    simp only [Option.bind_some]
    by_cases hy : -1000000 ≤ y ∧ y ≤ 1000000
    · rw [if_pos (by simpa using hy), next_midI pre y (by omega), app_midI pre suf y, ih (pre ++ [y]) k (by omega) (by simp; omega)]
      congr 1; rw [decide_eq_decide]; unfold hIn; simp [hy]
    · rw [if_neg (by simpa using hy)]; congr 1; symm; rw [decide_eq_false_iff_not]; exact fun q => hy (q y List.mem_cons_self)
/-- Heights fit runs. -/
def pot (h : Int → Int) (l : List Run) : Prop := ∀ r ∈ l, h r.f1 - h r.f0 = r.f2
theorem nfits_l0 {n : Int} {h : List Int} (hn : (h.length : Int) = n) (hb : hIn h) (suf : List Run) : ∀ (pre : List Run) (k : Nat), suf.length < k → pre.length + suf.length < 100 → VL n suf →
    (impl_NetFits.l0 k h (pre ++ suf) ((pre ++ suf).length : Int) (pre.length : Int) = some true ↔ pot (rd h) suf) ∧ ∃ b, impl_NetFits.l0 k h (pre ++ suf) ((pre ++ suf).length : Int) (pre.length : Int) = some b := by
  induction suf with
  | nil =>
    intro pre k hk _ _
    obtain ⟨k, rfl⟩ : ∃ m, k = m + 1 := ⟨k - 1, by omega⟩
    simp [impl_NetFits.l0, pot]
  | cons y suf ih =>
    intro pre k hk hl hv
    simp only [List.length_cons] at hk hl
    obtain ⟨k, rfl⟩ : ∃ m, k = m + 1 := ⟨k - 1, by omega⟩
    have hy := hv y List.mem_cons_self
    have bd : ∀ v : Int, 0 ≤ v → v < n → -1000000 ≤ rd h v ∧ rd h v ≤ 1000000 := fun v v0 v1 => by
      obtain ⟨i, rfl⟩ : ∃ i : Nat, v = i := ⟨v.toNat, by omega⟩
      rw [rd_eq h i (by omega)]
      exact hb _ (List.getElem_mem _)
    have b1 := bd y.f1 hy.2.2.1 hy.2.2.2
    have b0 := bd y.f0 hy.1 hy.2.1
    have hi := ih (pre ++ [y]) k (by omega) (by simp; omega) (fun r hr => hv r (List.mem_cons_of_mem _ hr))
    rw [impl_NetFits.l0, if_pos (len_midR _ _ _), if_pos (by omega), if_pos (len_midR _ _ _), rd_midR, if_pos hy.2.2.1, if_pos (by omega), if_pos hy.1, if_pos (by omega), nw64 (x := rd h y.f1 - rd h y.f0) (by omega) (by omega), next_midR pre y (by omega), app_midR pre suf y]
    by_cases c : rd h y.f1 - rd h y.f0 = y.f2
    · rw [if_pos c]
      refine ⟨hi.1.trans ⟨fun q r hr => ?_, fun q r hr => q r (List.mem_cons_of_mem _ hr)⟩, hi.2⟩
      rcases List.mem_cons.1 hr with e | e
      · rw [e]; exact c
      · exact q r e
    · rw [if_neg c]
      exact ⟨⟨fun q => by simp at q, fun q => absurd (q y List.mem_cons_self) c⟩, _, rfl⟩
theorem NetFits_true (k : Nat) (n : Int) (l : List Run) (h : List Int) (hk : 50 < k) (hv : nvB n l = true) (hn : (h.length : Int) = n) (hb : hIn h) : (impl_NetFits.f k n l h = some true ↔ pot (rd h) l) ∧ ∃ b, impl_NetFits.f k n l h = some b := by
  have hnn := nvB_n hv
  obtain ⟨k, rfl⟩ : ∃ m, k = m + 1 := ⟨k - 1, by omega⟩
  have e1 : impl_heightsValid.f (k + 1) n h = some true := by
    unfold impl_heightsValid.f
    rw [if_pos hn]
    have := nheights_l0 h [] (k + 1) (by omega) (by simp; omega)
    simp only [List.nil_append, List.length_nil] at this
    rw [show ((0 : Nat) : Int) = 0 from rfl] at this
    rw [this, decide_eq_true hb]
  have e2 := nfits_l0 hn hb l [] k (by omega) (by simp; omega) (nvB_VL hv)
  simp only [List.nil_append, List.length_nil] at e2
  rw [show ((0 : Nat) : Int) = 0 from rfl] at e2
  unfold impl_NetFits.f
  rw [impl_NetValid_eq (k + 1) n l (by omega), hv]
  simp only [Option.bind_some]
  rw [if_pos trivial, e1]
  simp only [Option.bind_some, Bool.not_true]
  rw [impl_NetFits.j0, if_neg (by simp)]
  exact e2
/-- A net is whole. -/
def wholeB (n : Int) (l : List Run) : Bool := nvB n l && (leastR n l).all (fun x => decide (x = 0))
theorem nwhole_l0 (suf : List Int) : ∀ (pre : List Int) (k : Nat), suf.length < k → pre.length + suf.length < 100 → impl_NetWhole.l0 k (pre ++ suf) ((pre ++ suf).length : Int) (pre.length : Int) = some (suf.all (fun x => decide (x = 0))) := by
  induction suf with
  | nil =>
    intro pre k hk _
    obtain ⟨k, rfl⟩ : ∃ m, k = m + 1 := ⟨k - 1, by omega⟩
    simp [impl_NetWhole.l0]
  | cons y suf ih =>
    intro pre k hk hl
    simp only [List.length_cons] at hk hl
    obtain ⟨k, rfl⟩ : ∃ m, k = m + 1 := ⟨k - 1, by omega⟩
    rw [impl_NetWhole.l0, if_pos (len_midI _ _ _), if_pos (by omega), if_pos (len_midI _ _ _), rd_midI]
    by_cases c : y = 0
    · rw [if_pos c, next_midI pre y (by omega), app_midI pre suf y, ih (pre ++ [y]) k (by omega) (by simp; omega)]
      simp [c]
    · rw [if_neg c]; simp [c]
theorem NetWhole_eq (k : Nat) (n : Int) (l : List Run) (hk : 50 < k) : impl_NetWhole.f k n l = some (wholeB n l) := by
  unfold impl_NetWhole.f wholeB
  rw [impl_NetValid_eq k n l (by omega)]
  simp only [Option.bind_some]
  by_cases hv : nvB n l = true
  · have hnn := nvB_n hv
    have hL := (leastR_lst (by omega) l (nvB_VL hv)).len
    have e : impl_leastLinked.f n l = some (leastR n l) := by unfold impl_leastLinked.f; rw [if_pos hv]
    have e2 := nwhole_l0 (leastR n l) [] k (by omega) (by simp; omega)
    simp only [List.nil_append, List.length_nil] at e2
    rw [show ((0 : Nat) : Int) = 0 from rfl] at e2
    rw [if_pos hv, e]
    simp only [Option.bind_some]
    rw [e2, hv, Bool.true_and]
  · rw [if_neg hv, Bool.eq_false_iff.2 hv, Bool.false_and]
theorem wholeB_iff {n : Int} {l : List Run} : wholeB n l = true ↔ nvB n l = true ∧ ∀ v, 0 ≤ v → v < n → Lk l 0 v := by
  unfold wholeB
  rw [Bool.and_eq_true]
  refine and_congr_right fun hv => ?_
  have hnn := nvB_n hv
  have L := leastR_lst (by omega) l (nvB_VL hv)
  have hl := L.len
  have e0 : rd (leastR n l) 0 = 0 := by have := L.le 0 (by omega) (by omega); have := L.nn 0 (by omega) (by omega); omega
  rw [List.all_eq_true]
  constructor
  · intro h v v0 v1
    rw [lk_iff L ⟨by omega, by omega⟩ ⟨v0, v1⟩, e0]
    obtain ⟨i, rfl⟩ : ∃ i : Nat, v = i := ⟨v.toNat, by omega⟩
    rw [rd_eq _ i (by omega)]
    exact (of_decide_eq_true (h _ (List.getElem_mem _))).symm
  · intro h x hx
    obtain ⟨i, hi, rfl⟩ := List.getElem_of_mem hx
    have := (lk_iff L ⟨by omega, by omega⟩ ⟨show (0 : Int) ≤ (i : Int) by omega, by omega⟩).1 (h i (by omega) (by omega))
    rw [e0, rd_eq _ i hi] at this
    exact decide_eq_true this.symm
end Go.Proofs.Ytbbpianfoimejaa.Pure
