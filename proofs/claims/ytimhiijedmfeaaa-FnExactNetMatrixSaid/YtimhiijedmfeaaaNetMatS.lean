/- The closed form of the reference's NetMatrix (chapter 22): it is the program's. -/
import Derived.Test.YtimhiijedmfeaaaNetMatL
import Derived.Test.YtimhiijedmfeaaaQ24
namespace Go.Proofs.Ytimhiijedmfeaaa.Pure
open Go.RowKit Go.Proofs.Ytimhiijedmfeaaa.Q Go.Proofs.YtimhiijedmfeaaaW.PrintWords Go.Proofs.YtimhiijedmfeaaaW.PrintLast
/-- A square matrix told by its entries. -/
def Mx (M : Nat) (x : List (List Int)) (g : Nat → Nat → Int) : Prop := x.length = M ∧ ∀ i, i < M → (rd_L1 x (i : Int)).length = M ∧ ∀ j, j < M → rd (rd_L1 x (i : Int)) (j : Int) = g i j
theorem Mx.congr {M : Nat} {x : List (List Int)} {g g' : Nat → Nat → Int} (h : Mx M x g) (e : ∀ a b, a < M → b < M → g a b = g' a b) : Mx M x g' :=
  ⟨h.1, fun i hi => ⟨(h.2 i hi).1, fun j hj => ((h.2 i hi).2 j hj).trans (e i j hi hj)⟩⟩
theorem rdL_set (x : List (List Int)) (p q : Nat) (r : List Int) (hp : p < x.length) : rd_L1 (x.set p r) (q : Int) = if p = q then r else rd_L1 x (q : Int) := by
  unfold rd_L1
  simp only [Int.toNat_natCast, List.getD_eq_getElem?_getD, List.getElem?_set]
  by_cases h : p = q
  · subst h; rw [if_pos rfl, if_pos rfl, if_pos hp]; rfl
  · rw [if_neg h, if_neg h]
theorem Mx.put {M : Nat} {x : List (List Int)} {g : Nat → Nat → Int} (h : Mx M x g) {i j : Nat} (hi : i < M) (hj : j < M) (v : Int) :
    Mx M (x.set ((i : Int)).toNat ((rd_L1 x (i : Int)).set ((j : Int)).toNat v)) (fun a b => if a = i ∧ b = j then v else g a b) := by
  rw [Int.toNat_natCast, Int.toNat_natCast]
  refine ⟨by rw [List.length_set]; exact h.1, fun a ha => ?_⟩
  rw [rdL_set x i a _ (by rw [h.1]; exact hi)]
  by_cases e : i = a
  · subst e
    rw [if_pos rfl, List.length_set]
    refine ⟨(h.2 i hi).1, fun b hb => ?_⟩
    dsimp only
    rw [rd_setn (by rw [(h.2 i hi).1]; exact hj)]
    by_cases e' : j = b
    · subst e'; rw [if_pos rfl, if_pos ⟨rfl, rfl⟩]
    · rw [if_neg e', if_neg (fun q => e' q.2.symm)]; exact (h.2 i hi).2 b hb
  · rw [if_neg e]
    refine ⟨(h.2 a ha).1, fun b hb => ?_⟩
    dsimp only
    rw [if_neg (fun q => e q.1.symm)]; exact (h.2 a ha).2 b hb
theorem Mx.add {M : Nat} {x : List (List Int)} {g : Nat → Nat → Int} (h : Mx M x g) {i j : Nat} (hi : i < M) (hj : j < M) {w : Int} (hb : -1000 ≤ g i j ∧ g i j ≤ 1000) (hw : -10 ≤ w ∧ w ≤ 10) :
    Mx M (x.set ((i : Int)).toNat ((rd_L1 x (i : Int)).set ((j : Int)).toNat (wrap64 (rd (rd_L1 x (i : Int)) (j : Int) + w)))) (fun a b => if a = i ∧ b = j then g a b + w else g a b) :=
  (h.put hi hj _).congr fun a b _ _ => by
    by_cases c : a = i ∧ b = j
    · obtain ⟨rfl, rfl⟩ := c
      rw [if_pos ⟨rfl, rfl⟩, if_pos ⟨rfl, rfl⟩, (h.2 a hi).2 b hj, nw64 (by omega) (by omega)]
    · rw [if_neg c, if_neg c]
theorem Mx.sub {M : Nat} {x : List (List Int)} {g : Nat → Nat → Int} (h : Mx M x g) {i j : Nat} (hi : i < M) (hj : j < M) {w : Int} (hb : -1000 ≤ g i j ∧ g i j ≤ 1000) (hw : -10 ≤ w ∧ w ≤ 10) :
    Mx M (x.set ((i : Int)).toNat ((rd_L1 x (i : Int)).set ((j : Int)).toNat (wrap64 (rd (rd_L1 x (i : Int)) (j : Int) - w)))) (fun a b => if a = i ∧ b = j then g a b - w else g a b) :=
  (h.put hi hj _).congr fun a b _ _ => by
    by_cases c : a = i ∧ b = j
    · obtain ⟨rfl, rfl⟩ := c
      rw [if_pos ⟨rfl, rfl⟩, if_pos ⟨rfl, rfl⟩, (h.2 a hi).2 b hj, nw64 (by omega) (by omega)]
    · rw [if_neg c, if_neg c]
theorem Mx.eq {M : Nat} {x : List (List Int)} {g : Nat → Nat → Int} (h : Mx M x g) : x = (List.range M).map (fun i => tab M (g i)) := by
  refine List.ext_getElem (by simp [h.1]) (fun i h1 h2 => ?_)
  have hi : i < M := by rw [← h.1]; exact h1
  have e : rd_L1 x (i : Int) = x[i] := by simp [rd_L1, List.getElem?_eq_getElem h1]
  have hl := (h.2 i hi).1
  rw [e] at hl
  simp only [List.getElem_map, List.getElem_range]
  refine List.ext_getElem (by simp [tab, hl]) (fun j h3 h4 => ?_)
  have hj : j < M := by rw [← hl]; exact h3
  have := (h.2 i hi).2 j hj
  rw [e] at this
  simp only [tab, List.getElem_map, List.getElem_range]
  rw [← this]
  simp [rd, List.getElem?_eq_getElem h3]
theorem Net_l0 {N : Nat} (hN : 2 ≤ N ∧ N ≤ 6) (l : List Run) (d : Nat) : ∀ (p k : Nat), p + d = N - 1 → spec_NetMatrix.l0 (k + d + 1) (N : Int) l (List.replicate p (List.replicate (N - 1) 0)) ((p + 1 : Nat) : Int) = spec_NetMatrix.l1 k l (List.replicate (N - 1) (List.replicate (N - 1) 0)) 0 := by
  induction d with
  | zero =>
    intro p k hp
    rw [spec_NetMatrix.l0, if_neg (by omega), show p = N - 1 by omega]
  | succ d ih =>
    intro p k hp
    have hw : wrap64 ((N : Int) - 1) = ((N - 1 : Nat) : Int) := by rw [nw64 (by omega) (by omega)]; omega
    rw [show k + (d + 1) + 1 = (k + d + 1) + 1 by omega, spec_NetMatrix.l0, if_pos (by omega), hw, if_pos (by omega), Int.toNat_natCast, if_pos (by omega), if_pos (by simp; omega), nw64 (by omega) (by omega)]
    have := ih (p + 1) k (by omega)
    rw [List.replicate_succ'] at this
    exact this
theorem sgn_at {y : Run} {c : Nat} (f t : Int) (hf : y.f0 - 1 = f) (ht : y.f1 - 1 = t) : sgnE y ((c : Int) + 1) = (if (c : Int) = t then 1 else 0) - (if (c : Int) = f then 1 else 0) := by
  unfold sgnE
  congr 1
  · by_cases h : (c : Int) = t
    · rw [if_pos h, if_pos (by omega)]
    · rw [if_neg h, if_neg (by omega)]
  · by_cases h : (c : Int) = f
    · rw [if_pos h, if_pos (by omega)]
    · rw [if_neg h, if_neg (by omega)]
set_option maxHeartbeats 1000000 in
theorem Net_l1 {N : Nat} (hN : 2 ≤ N ∧ N ≤ 6) (suf : List Run) : ∀ (pre : List Run) (x : List (List Int)) (k : Nat), 2 * suf.length + 1 < k → pre.length + suf.length ≤ 12 → (∀ r ∈ pre ++ suf, rvB (N : Int) r = true) →
    Mx (N - 1) x (fun a b => lapE pre ((a : Int) + 1) ((b : Int) + 1)) → ∃ x', spec_NetMatrix.l1 k (pre ++ suf) x (pre.length : Int) = some (x', true) ∧ Mx (N - 1) x' (fun a b => lapE (pre ++ suf) ((a : Int) + 1) ((b : Int) + 1)) := by
  induction suf with
  | nil =>
    intro pre x k hk hl hv hM
    obtain ⟨k, rfl⟩ : ∃ m, k = m + 1 := ⟨k - 1, by omega⟩
    exact ⟨x, by rw [spec_NetMatrix.l1, if_neg (by simp)], by simpa using hM⟩
  | cons y suf ih =>
    intro pre x k hk hl hv hM
    simp only [List.length_cons] at hk hl
    obtain ⟨k, rfl⟩ : ∃ m, k = m + 2 := ⟨k - 2, by omega⟩
    have hy := rvB_iff.1 (hv y (by simp))
    have hvp : ∀ r ∈ pre, rvB (N : Int) r = true := fun r hr => hv r (List.mem_append_left _ hr)
    have bd := fun (a b : Nat) => lapE_bd pre hvp ((a : Int) + 1) ((b : Int) + 1)
    have wf : wrap64 (y.f0 - 1) = y.f0 - 1 := nw64 (by omega) (by omega)
    have wt : wrap64 (y.f1 - 1) = y.f1 - 1 := nw64 (by omega) (by omega)
    have fin : ∀ x2, Mx (N - 1) x2 (fun a b => lapE pre ((a : Int) + 1) ((b : Int) + 1) + y.f3 * (sgnE y ((a : Int) + 1) * sgnE y ((b : Int) + 1))) →
        ∃ x', spec_NetMatrix.l1 k (pre ++ y :: suf) x2 (wrap64 ((pre.length : Int) + 1)) = some (x', true) ∧ Mx (N - 1) x' (fun a b => lapE (pre ++ y :: suf) ((a : Int) + 1) ((b : Int) + 1)) := by
      intro x2 h2
      have := ih (pre ++ [y]) x2 k (by omega) (by simp; omega) (by simpa using hv) (h2.congr fun a b _ _ => (lapE_snoc pre y _ _).symm)
      rw [next_midR pre y (by omega), app_midR pre suf y]
      exact this
    rw [spec_NetMatrix.l1, if_pos (len_midR _ _ _), if_pos (by omega), rd_midR, wf, wt]
    by_cases hf : y.f0 - 1 ≥ 0
    · obtain ⟨i, ei⟩ : ∃ i : Nat, y.f0 - 1 = i := ⟨(y.f0 - 1).toNat, by omega⟩
      have hi : i < N - 1 := by omega
      rw [if_pos hf, if_pos hf, ei, if_pos (by rw [hM.1]; omega), if_pos (by rw [(hM.2 i hi).1]; omega)]
      have h1 := hM.add hi hi (w := y.f3) (by have := bd i i; omega) (by omega)
      by_cases ht : y.f1 - 1 ≥ 0
      · obtain ⟨j, ej⟩ : ∃ j : Nat, y.f1 - 1 = j := ⟨(y.f1 - 1).toNat, by omega⟩
        have hj : j < N - 1 := by omega
        have hij : i ≠ j := by omega
        have h2 := h1.add hj hj (w := y.f3) (by have := bd j j; rw [if_neg (by omega)]; omega) (by omega)
        have h3 := h2.sub hi hj (w := y.f3) (by have := bd i j; rw [if_neg (by omega), if_neg (by omega)]; omega) (by omega)
        have h4 := h3.sub hj hi (w := y.f3) (by have := bd j i; rw [if_neg (by omega), if_neg (by omega), if_neg (by omega)]; omega) (by omega)
        rw [spec_NetMatrix.j2, ej, if_pos (by omega), if_pos (by omega), if_pos (by rw [h1.1]; omega), if_pos (by rw [(h1.2 j hj).1]; omega)]
        simp only [Option.bind_some]
        rw [if_pos (by omega), if_pos (by omega), if_pos (by rw [h1.1]; omega), if_pos (by rw [(h2.2 i hi).1]; omega)]
        rw [if_pos (by rw [(h3.2 j hj).1]; omega)]
        refine fin _ (h4.congr fun a b _ _ => ?_)
        rw [sgn_at (c := a) _ _ ei ej, sgn_at (c := b) _ _ ei ej]
        clear h1 h2 h3 h4 fin ih hM bd
        have q (c d : Nat) : ((c : Int) = (d : Int)) ↔ c = d := by omega
        simp only [q]
        by_cases a1 : a = i <;> by_cases a2 : a = j <;> by_cases b1 : b = i <;> by_cases b2 : b = j <;> first | omega | (simp [a1, a2, b1, b2, hij, Ne.symm hij]; try omega)
      · rw [spec_NetMatrix.j2, if_neg ht, if_pos (by omega)]
        refine fin _ (h1.congr fun a b _ _ => ?_)
        rw [sgn_at (c := a) _ _ ei rfl, sgn_at (c := b) _ _ ei rfl, if_neg (show ¬ (a : Int) = y.f1 - 1 by omega), if_neg (show ¬ (b : Int) = y.f1 - 1 by omega)]
        have q (c d : Nat) : ((c : Int) = (d : Int)) ↔ c = d := by omega
        simp only [q]
        by_cases a1 : a = i <;> by_cases b1 : b = i <;> simp [a1, b1]
    · have ht : y.f1 - 1 ≥ 0 := by omega
      obtain ⟨j, ej⟩ : ∃ j : Nat, y.f1 - 1 = j := ⟨(y.f1 - 1).toNat, by omega⟩
      have hj : j < N - 1 := by omega
      have h1 := hM.add hj hj (w := y.f3) (by have := bd j j; omega) (by omega)
      rw [if_neg hf, spec_NetMatrix.j2, ej, if_pos (by omega), if_pos (by omega), if_pos (by rw [hM.1]; omega), if_pos (by rw [(hM.2 j hj).1]; omega)]
      simp only [Option.bind_some]
      rw [if_neg (by omega)]
      refine fin _ (h1.congr fun a b _ _ => ?_)
      rw [sgn_at (c := a) _ _ rfl ej, sgn_at (c := b) _ _ rfl ej, if_neg (show ¬ (a : Int) = y.f0 - 1 by omega), if_neg (show ¬ (b : Int) = y.f0 - 1 by omega)]
      have q (c d : Nat) : ((c : Int) = (d : Int)) ↔ c = d := by omega
      simp only [q]
      by_cases a1 : a = j <;> by_cases b1 : b = j <;> simp [a1, b1]
theorem spec_NetMatrix_eq (k : Nat) (n : Int) (l : List Run) (hk : 200 < k) : spec_NetMatrix.f k n l = some (matrixR n l) := by
  unfold spec_NetMatrix.f matrixR
  rw [spec_NetValid_eq _ n l (by omega)]
  simp only [Option.bind_some]
  by_cases h : nvB n l = true
  · have hv := nvB_iff.1 h
    obtain ⟨N, rfl⟩ : ∃ N : Nat, n = N := ⟨n.toNat, by omega⟩
    rw [if_pos h, if_pos h]
    obtain ⟨k', rfl⟩ : ∃ q, k = q + (N - 1) + 1 := ⟨k - (N - 1) - 1, by omega⟩
    have e0 := Net_l0 (N := N) (by omega) l (N - 1) 0 k' (by omega)
    rw [show List.replicate 0 (List.replicate (N - 1) (0 : Int)) = [] from rfl, show ((0 + 1 : Nat) : Int) = 1 from rfl] at e0
    rw [e0]
    have hz : Mx (N - 1) (List.replicate (N - 1) (List.replicate (N - 1) (0 : Int))) (fun a b => lapE [] ((a : Int) + 1) ((b : Int) + 1)) := by
      refine ⟨by simp, fun i hi => ?_⟩
      have e : rd_L1 (List.replicate (N - 1) (List.replicate (N - 1) (0 : Int))) (i : Int) = List.replicate (N - 1) 0 := by simp [rd_L1, hi]
      rw [e]
      exact ⟨by simp, fun j hj => by rw [rd_replicate]; rfl⟩
    obtain ⟨x', e1, hM⟩ := Net_l1 (N := N) (by omega) l [] _ k' (by omega) (by simp; omega) (by simpa using hv.2) hz
    simp only [List.nil_append, List.length_nil] at e1 hM
    rw [show ((0 : Nat) : Int) = 0 from rfl] at e1
    rw [e1, hM.eq, Int.toNat_natCast]
    rfl
  · rw [if_neg h, if_neg h]
end Go.Proofs.Ytimhiijedmfeaaa.Pure
