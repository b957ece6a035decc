/- Which nodes of a net are linked. -/
import Derived.Test.YtbbpianfoimejaaRunsN
namespace Go.Proofs.Ytbbpianfoimejaa.Pure
open Go.RowKit Go.Proofs.Ytbbpianfoimejaa.Q Go.Proofs.YtbbpianfoimejaaW.PrintWords Go.Proofs.YtbbpianfoimejaaW.PrintLast Go.Proofs.YtbbpianfoimejaaW.PrintMore

/-- Linked by runs. -/
inductive Lk (l : List Run) : Int → Int → Prop
  | refl (a : Int) : Lk l a a
  | fwd {a : Int} {r : Run} (hm : r ∈ l) (h : Lk l a r.f0) : Lk l a r.f1
  | bwd {a : Int} {r : Run} (hm : r ∈ l) (h : Lk l a r.f1) : Lk l a r.f0
theorem Lk.trans {l : List Run} {a b c : Int} (h : Lk l a b) (k : Lk l b c) : Lk l a c := by
  induction k with
  | refl => exact h
  | fwd hm _ ih => exact .fwd hm ih
  | bwd hm _ ih => exact .bwd hm ih
theorem Lk.symm {l : List Run} {a b : Int} (h : Lk l a b) : Lk l b a := by
  induction h with
  | refl => exact .refl _
  | fwd hm _ ih => exact Lk.trans (.bwd hm (.refl _)) ih
  | bwd hm _ ih => exact Lk.trans (.fwd hm (.refl _)) ih
theorem Lk.mono {l l' : List Run} {a b : Int} (h : Lk l a b) (hs : ∀ r ∈ l, r ∈ l') : Lk l' a b := by
  induction h with
  | refl => exact .refl _
  | fwd hm _ ih => exact .fwd (hs _ hm) ih
  | bwd hm _ ih => exact .bwd (hs _ hm) ih
theorem Lk.run {l : List Run} {r : Run} (h : r ∈ l) : Lk l r.f0 r.f1 := .fwd h (.refl _)
theorem Lk.const {α : Type} {l : List Run} {a b : Int} (f : Int → α) (hc : ∀ r ∈ l, f r.f0 = f r.f1) (h : Lk l a b) : f a = f b := by
  induction h with
  | refl => rfl
  | fwd hm _ ih => exact ih.trans (hc _ hm)
  | bwd hm _ ih => exact ih.trans (hc _ hm).symm
/-- The ends of all runs are nodes. -/
def VL (n : Int) (l : List Run) : Prop := ∀ r ∈ l, 0 ≤ r.f0 ∧ r.f0 < n ∧ 0 ≤ r.f1 ∧ r.f1 < n
theorem VL.sub {n : Int} {l l' : List Run} (h : VL n l) (hs : ∀ r ∈ l', r ∈ l) : VL n l' := fun r hr => h r (hs r hr)
theorem Lk.range {n : Int} {l : List Run} (hv : VL n l) {a b : Int} (h : Lk l a b) (ha : 0 ≤ a ∧ a < n) : 0 ≤ b ∧ b < n := by
  induction h with
  | refl => exact ha
  | fwd hm _ _ => have := hv _ hm; omega
  | bwd hm _ _ => have := hv _ hm; omega
/-- The least node with which each node is linked. -/
structure Lst (n : Int) (l : List Run) (o : List Int) : Prop where
  len : (o.length : Int) = n
  lk : ∀ v, 0 ≤ v → v < n → Lk l (rd o v) v
  le : ∀ v, 0 ≤ v → v < n → rd o v ≤ v
  nn : ∀ v, 0 ≤ v → v < n → 0 ≤ rd o v
  cl : ∀ r ∈ l, rd o r.f0 = rd o r.f1
theorem rd_eq (o : List Int) (i : Nat) (h : i < o.length) : rd o (i : Int) = o[i] := by
  unfold rd; simp [List.getD, h]
theorem ext_rd {o o' : List Int} (hl : o.length = o'.length) (h : ∀ v : Int, 0 ≤ v → v < o.length → rd o v = rd o' v) : o = o' := by
  apply List.ext_getElem hl
  intro i h1 h2
  rw [← rd_eq o i h1, ← rd_eq o' i h2]
  exact h i (by omega) (by omega)
theorem rd_set (o : List Int) (i v x : Int) (h0 : 0 ≤ i) (hv : 0 ≤ v) (hl : v < o.length) : rd (o.set i.toNat x) v = if v = i then x else rd o v := by
  unfold rd
  obtain ⟨a, rfl⟩ : ∃ a : Nat, i = a := ⟨i.toNat, by omega⟩
  obtain ⟨b, rfl⟩ : ∃ b : Nat, v = b := ⟨v.toNat, by omega⟩
  simp only [Int.toNat_natCast, List.getD, List.getElem?_set]
  by_cases e : a = b
  · subst e; rw [if_pos rfl, if_pos rfl, if_pos (by omega)]; rfl
  · rw [if_neg e, if_neg (by omega)]
theorem Lst.uniq {n : Int} {l : List Run} {o o' : List Int} (h : Lst n l o) (h' : Lst n l o') : o = o' := by
  have key : ∀ {o o' : List Int}, Lst n l o → Lst n l o' → ∀ v, 0 ≤ v → v < n → rd o v ≤ rd o' v := by
    intro o o' h h' v h0 h1
    have e := (h'.lk v h0 h1).const (rd o) h.cl
    have := h.le (rd o' v) (h'.nn v h0 h1) (by have := h'.le v h0 h1; omega)
    omega
  refine ext_rd (by have := h.len; have := h'.len; omega) fun v h0 h1 => ?_
  have hv : v < n := by have := h.len; omega
  have := key h h' v h0 hv
  have := key h' h v h0 hv
  omega
theorem lk_iff {n : Int} {l : List Run} {o : List Int} (h : Lst n l o) {a b : Int} (ha : 0 ≤ a ∧ a < n) (hb : 0 ≤ b ∧ b < n) : Lk l a b ↔ rd o a = rd o b := by
  constructor
  · exact fun k => k.const (rd o) h.cl
  · intro e
    exact (h.lk a ha.1 ha.2).symm.trans (by rw [e]; exact h.lk b hb.1 hb.2)
def mg (o : List Int) (a b : Int) : List Int := o.map fun x => if x = max a b then min a b else x
theorem rd_mg (o : List Int) (a b v : Int) (h0 : 0 ≤ v) (h1 : v < o.length) : rd (mg o a b) v = if rd o v = max a b then min a b else rd o v := by
  obtain ⟨i, rfl⟩ : ∃ i : Nat, v = i := ⟨v.toNat, by omega⟩
  rw [rd_eq _ i (by simp [mg]; omega), rd_eq o i (by omega)]
  simp [mg]
def iota (n : Int) : List Int := (List.range n.toNat).map fun (i : Nat) => (i : Int)
theorem iota_len (n : Int) (h : 0 ≤ n) : ((iota n).length : Int) = n := by simp [iota]; omega
theorem rd_iota (n v : Int) (h0 : 0 ≤ v) (h1 : v < n) : rd (iota n) v = v := by
  obtain ⟨i, rfl⟩ : ∃ i : Nat, v = i := ⟨v.toNat, by omega⟩
  rw [rd_eq _ i (by simp [iota]; omega)]
  simp [iota]
theorem Lst.nil (n : Int) (h : 0 ≤ n) : Lst n [] (iota n) := by
  refine ⟨iota_len n h, fun v h0 h1 => ?_, fun v h0 h1 => ?_, fun v h0 h1 => ?_, by simp⟩ <;> rw [rd_iota n v h0 h1]
  · exact .refl _
  · exact Int.le_refl _
  · exact h0
theorem Lst.snoc {n : Int} {l : List Run} {o : List Int} (h : Lst n l o) {e : Run} (he : 0 ≤ e.f0 ∧ e.f0 < n ∧ 0 ≤ e.f1 ∧ e.f1 < n) (hv : VL n l) : Lst n (l ++ [e]) (mg o (rd o e.f0) (rd o e.f1)) := by
  have hl := h.len
  have hs : ∀ r ∈ l, r ∈ l ++ [e] := fun r hr => List.mem_append_left _ hr
  have hab : Lk (l ++ [e]) (rd o e.f0) (rd o e.f1) := ((h.lk e.f0 he.1 he.2.1).mono hs).trans ((Lk.run (by simp)).trans ((h.lk e.f1 he.2.2.1 he.2.2.2).mono hs).symm)
  have na := h.nn e.f0 he.1 he.2.1
  have nb := h.nn e.f1 he.2.2.1 he.2.2.2
  refine ⟨by simp [mg]; omega, fun v h0 h1 => ?_, fun v h0 h1 => ?_, fun v h0 h1 => ?_, fun r hr => ?_⟩
  · rw [rd_mg _ _ _ _ h0 (by omega)]
    have k := (h.lk v h0 h1).mono hs
    split
    · next q =>
      rw [q] at k
      refine Lk.trans ?_ k
      rcases Int.le_total (rd o e.f0) (rd o e.f1) with c | c
      · rw [Int.max_eq_right c, Int.min_eq_left c]; exact hab
      · rw [Int.max_eq_left c, Int.min_eq_right c]; exact hab.symm
    · exact k
  · rw [rd_mg _ _ _ _ h0 (by omega)]
    have := h.le v h0 h1
    split <;> omega
  · rw [rd_mg _ _ _ _ h0 (by omega)]
    have := h.nn v h0 h1
    split <;> omega
  · rcases List.mem_append.1 hr with q | q
    · have := hv r q
      rw [rd_mg _ _ _ _ (by omega) (by omega), rd_mg _ _ _ _ (by omega) (by omega), h.cl r q]
    · obtain rfl : r = e := by simpa using q
      rw [rd_mg _ _ _ _ (by omega) (by omega), rd_mg _ _ _ _ (by omega) (by omega)]
      split <;> split <;> omega
def leastR (n : Int) (l : List Run) : List Int := l.foldl (fun o r => mg o (rd o r.f0) (rd o r.f1)) (iota n)
theorem leastR_snoc (n : Int) (l : List Run) (e : Run) : leastR n (l ++ [e]) = mg (leastR n l) (rd (leastR n l) e.f0) (rd (leastR n l) e.f1) := by simp [leastR]
theorem snocInd {α : Type} (P : List α → Prop) (h0 : P []) (h1 : ∀ l e, P l → P (l ++ [e])) (l : List α) : P l := by
  rw [← List.reverse_reverse l]
  induction l.reverse with
  | nil => exact h0
  | cons a t ih => rw [List.reverse_cons]; exact h1 _ _ ih
theorem leastR_lst {n : Int} (hn : 0 ≤ n) (l : List Run) : VL n l → Lst n l (leastR n l) := by
  refine snocInd (fun l => VL n l → Lst n l (leastR n l)) (fun _ => Lst.nil n hn) (fun l e ih hv => ?_) l
  have hv' : VL n l := hv.sub fun r hr => List.mem_append_left _ hr
  rw [leastR_snoc]
  exact (ih hv').snoc (hv e (by simp)) hv'
theorem nvB_VL {n : Int} {l : List Run} (h : nvB n l = true) : VL n l := by
  intro r hr
  unfold nvB at h
  rw [Bool.and_eq_true] at h
  have := List.all_eq_true.1 h.2 r hr
  unfold rvB at this
  have := of_decide_eq_true this
  omega
theorem nvB_n {n : Int} {l : List Run} (h : nvB n l = true) : 2 ≤ n ∧ n ≤ 6 ∧ l.length ≤ 12 := by
  unfold nvB at h
  rw [Bool.and_eq_true] at h
  exact of_decide_eq_true h.1
/-! counting -/
theorem count_le_of (c : Int) : ∀ (o o' : List Int), o.length = o'.length → (∀ i : Nat, (h : i < o.length) → (h' : i < o'.length) → o[i] = c → o'[i] = c) → o.count c ≤ o'.count c
  | [], [], _, _ => Nat.le_refl _
  | x :: o, y :: o', hl, h => by
    have ih := count_le_of c o o' (by simpa using hl) (fun i h1 h2 e => by have := h (i + 1) (by simp; omega) (by simp; omega) (by simpa using e); simpa using this)
    have h0 := h 0 (by simp) (by simp)
    simp only [List.count_cons, List.getElem_cons_zero] at h0 ⊢
    by_cases e : x = c
    · simp [e, h0 e]; omega
    · simp [e]; omega
theorem count_lt_of (c : Int) : ∀ (o o' : List Int), o.length = o'.length → (∀ i : Nat, (h : i < o.length) → (h' : i < o'.length) → o[i] = c → o'[i] = c) → (j : Nat) → (h : j < o.length) → (h' : j < o'.length) → o[j] ≠ c → o'[j] = c → o.count c < o'.count c
  | [], _, _, _, j, h, _, _, _ => by simp at h
  | x :: o, [], hl, _, _, _, _, _, _ => by simp at hl
  | x :: o, y :: o', hl, h, j, hj, hj', hn, he => by
    have hs : ∀ i : Nat, (h : i < o.length) → (h' : i < o'.length) → o[i] = c → o'[i] = c := fun i h1 h2 e => by have := h (i + 1) (by simp; omega) (by simp; omega) (by simpa using e); simpa using this
    have h0 := h 0 (by simp) (by simp)
    simp only [List.count_cons, List.getElem_cons_zero] at h0 ⊢
    cases j with
    | zero =>
      have ih := count_le_of c o o' (by simpa using hl) hs
      simp only [List.getElem_cons_zero] at hn he
      simp [hn, he]; omega
    | succ j =>
      have ih := count_lt_of c o o' (by simpa using hl) hs j (by simpa using hj) (by simpa using hj') (by simpa using hn) (by simpa using he)
      by_cases e : x = c
      · simp [e, h0 e]; omega
      · simp [e]; omega
theorem count_le_rd (c : Int) (o o' : List Int) (hl : o.length = o'.length) (h : ∀ v : Int, 0 ≤ v → v < o.length → rd o v = c → rd o' v = c) : o.count c ≤ o'.count c :=
  count_le_of c o o' hl fun i h1 h2 e => by
    have := h i (by omega) (by omega) (by rw [rd_eq o i h1]; exact e)
    rwa [rd_eq o' i h2] at this
theorem count_lt_rd (c : Int) (o o' : List Int) (hl : o.length = o'.length) (h : ∀ v : Int, 0 ≤ v → v < o.length → rd o v = c → rd o' v = c) (v : Int) (h0 : 0 ≤ v) (h1 : v < o.length) (hn : rd o v ≠ c) (he : rd o' v = c) : o.count c < o'.count c := by
  obtain ⟨j, rfl⟩ : ∃ j : Nat, v = j := ⟨v.toNat, by omega⟩
  refine count_lt_of c o o' hl (fun i h1 h2 e => ?_) j (by omega) (by omega) (by rwa [rd_eq o j (by omega)] at hn) (by rwa [rd_eq o' j (by omega)] at he)
  have := h i (by omega) (by omega) (by rw [rd_eq o i h1]; exact e)
  rwa [rd_eq o' i h2] at this
theorem count_pos_rd (c : Int) (o : List Int) (v : Int) (h0 : 0 ≤ v) (h1 : v < o.length) (h : rd o v = c) : 0 < o.count c := by
  obtain ⟨j, rfl⟩ : ∃ j : Nat, v = j := ⟨v.toNat, by omega⟩
  rw [List.count_pos_iff]
  rw [rd_eq o j (by omega)] at h
  rw [← h]
  exact List.getElem_mem _
/-! the reference: rounds -/
def stp (o : List Int) (r : Run) : List Int := (o.set r.f0.toNat (min (rd o r.f0) (rd o r.f1))).set r.f1.toNat (min (rd o r.f0) (rd o r.f1))
def rnd (l : List Run) (o : List Int) : List Int := l.foldl stp o
def rnds (l : List Run) : Nat → List Int → List Int
  | 0, o => o
  | j + 1, o => rnd l (rnds l j o)
structure Sd (n : Int) (l : List Run) (o : List Int) : Prop where
  len : (o.length : Int) = n
  lk : ∀ v, 0 ≤ v → v < n → Lk l (rd o v) v
theorem rd_stp {n : Int} {o : List Int} {r : Run} (hl : (o.length : Int) = n) (hr : 0 ≤ r.f0 ∧ r.f0 < n ∧ 0 ≤ r.f1 ∧ r.f1 < n) (v : Int) (h0 : 0 ≤ v) (h1 : v < n) :
    rd (stp o r) v = if v = r.f0 ∨ v = r.f1 then min (rd o r.f0) (rd o r.f1) else rd o v := by
  unfold stp
  rw [rd_set _ _ _ _ hr.2.2.1 h0 (by simp; omega), rd_set _ _ _ _ hr.1 h0 (by omega)]
  split <;> split <;> simp_all
theorem Sd.stp {n : Int} {l : List Run} {o : List Int} (h : Sd n l o) (hv : VL n l) {r : Run} (hr : r ∈ l) : Sd n l (stp o r) := by
  have hb := hv r hr
  refine ⟨by simp [Go.Proofs.Ytbbpianfoimejaa.Pure.stp]; exact h.len, fun v h0 h1 => ?_⟩
  rw [rd_stp h.len hb v h0 h1]
  have k0 := h.lk r.f0 hb.1 hb.2.1
  have k1 := h.lk r.f1 hb.2.2.1 hb.2.2.2
  split
  · next q =>
    have kk : Lk l (min (rd o r.f0) (rd o r.f1)) r.f0 := by
      rcases Int.le_total (rd o r.f0) (rd o r.f1) with c | c
      · rw [Int.min_eq_left c]; exact k0
      · rw [Int.min_eq_right c]; exact k1.trans (Lk.run hr).symm
    rcases q with q | q <;> rw [q]
    · exact kk
    · exact kk.trans (Lk.run hr)
  · exact h.lk v h0 h1
theorem stp_keep {n : Int} {l : List Run} {o : List Int} {c : Int} (h : Sd n l o) (hv : VL n l) (hc : ∀ v, 0 ≤ v → v < n → Lk l c v → c ≤ v) {r : Run} (hr : r ∈ l) :
    (∀ v, 0 ≤ v → v < n → rd o v = c → rd (stp o r) v = c) ∧ (rd o r.f0 = c ∨ rd o r.f1 = c → rd (stp o r) r.f0 = c ∧ rd (stp o r) r.f1 = c) := by
  have hb := hv r hr
  have k0 := h.lk r.f0 hb.1 hb.2.1
  have k1 := h.lk r.f1 hb.2.2.1 hb.2.2.2
  have hm : rd o r.f0 = c ∨ rd o r.f1 = c → min (rd o r.f0) (rd o r.f1) = c := by
    intro q
    have r0 := (k0.symm).range hv ⟨hb.1, hb.2.1⟩
    have r1 := (k1.symm).range hv ⟨hb.2.2.1, hb.2.2.2⟩
    rcases q with q | q
    · have := hc _ r1.1 r1.2 (by rw [← q]; exact k0.trans ((Lk.run hr).trans k1.symm))
      omega
    · have := hc _ r0.1 r0.2 (by rw [← q]; exact k1.trans ((Lk.run hr).symm.trans k0.symm))
      omega
  refine ⟨fun v h0 h1 e => ?_, fun q => ?_⟩
  · rw [rd_stp h.len hb v h0 h1]
    split
    · next q => rcases q with q | q <;> subst q <;> exact hm (by simp [e])
    · exact e
  · rw [rd_stp h.len hb _ hb.1 hb.2.1, rd_stp h.len hb _ hb.2.2.1 hb.2.2.2]
    simp [hm q]
theorem rnd_keep {n : Int} {l : List Run} {c : Int} (hv : VL n l) (hc : ∀ v, 0 ≤ v → v < n → Lk l c v → c ≤ v) : ∀ (l' : List Run) (o : List Int), (∀ r ∈ l', r ∈ l) → Sd n l o →
    Sd n l (rnd l' o) ∧ (∀ v, 0 ≤ v → v < n → rd o v = c → rd (rnd l' o) v = c) ∧ ∀ r ∈ l', (rd o r.f0 = c ∨ rd o r.f1 = c → rd (rnd l' o) r.f0 = c ∧ rd (rnd l' o) r.f1 = c)
  | [], o, _, h => ⟨h, fun _ _ _ e => e, by simp⟩
  | r :: l', o, hs, h => by
    have hr := hs r (by simp)
    have hb := hv r hr
    obtain ⟨s1, s2, s3⟩ := rnd_keep hv hc l' (stp o r) (fun x hx => hs x (by simp [hx])) (h.stp hv hr)
    obtain ⟨t1, t2⟩ := stp_keep h hv hc hr
    refine ⟨s1, fun v h0 h1 e => s2 v h0 h1 (t1 v h0 h1 e), fun x hx q => ?_⟩
    rcases List.mem_cons.1 hx with e | e
    · subst e
      have := t2 q
      exact ⟨s2 _ hb.1 hb.2.1 this.1, s2 _ hb.2.2.1 hb.2.2.2 this.2⟩
    · have hx' := hv x (hs x hx)
      refine s3 x e (q.imp (t1 _ hx'.1 hx'.2.1) (t1 _ hx'.2.2.1 hx'.2.2.2))
theorem rnds_full {n : Int} {l : List Run} {c : Int} (hv : VL n l) (hc0 : 0 ≤ c ∧ c < n) (hc : ∀ v, 0 ≤ v → v < n → Lk l c v → c ≤ v) {o : List Int} (h : Sd n l o) (ho : rd o c = c) : ∀ j : Nat,
    Sd n l (rnds l j o) ∧ rd (rnds l j o) c = c ∧ ((∀ v, Lk l c v → rd (rnds l j o) v = c) ∨ j + 1 ≤ (rnds l j o).count c)
  | 0 => ⟨h, ho, .inr (count_pos_rd c o c hc0.1 (by have := h.len; omega) ho)⟩
  | j + 1 => by
    obtain ⟨i1, i2, i3⟩ := rnds_full hv hc0 hc h ho j
    obtain ⟨s1, s2, s3⟩ := rnd_keep hv hc l (rnds l j o) (fun _ h => h) i1
    refine ⟨s1, s2 c hc0.1 hc0.2 i2, ?_⟩
    rcases i3 with i3 | i3
    · exact .inl fun v k => s2 v (k.range hv hc0).1 (k.range hv hc0).2 (i3 v k)
    · by_cases q : ∀ v, 0 ≤ v → v < n → rd (rnd l (rnds l j o)) v = c → rd (rnds l j o) v = c
      · refine .inl fun v k => s2 v (k.range hv hc0).1 (k.range hv hc0).2 ?_
        have : ∀ r ∈ l, (rd (rnds l j o) r.f0 = c) = (rd (rnds l j o) r.f1 = c) := fun r hr => by
          have hb := hv r hr
          refine propext ⟨fun e => q _ hb.2.2.1 hb.2.2.2 (s3 r hr (.inl e)).2, fun e => q _ hb.1 hb.2.1 (s3 r hr (.inr e)).1⟩
        have e := k.const (fun x => rd (rnds l j o) x = c) this
        exact e.mp i2
      · right
        have : ∃ v, 0 ≤ v ∧ v < n ∧ rd (rnd l (rnds l j o)) v = c ∧ rd (rnds l j o) v ≠ c := by
          refine Classical.byContradiction fun w => q fun v h0 h1 e => Classical.byContradiction fun e' => w ⟨v, h0, h1, e, e'⟩
        obtain ⟨v, h0, h1, e, e'⟩ := this
        have hl := i1.len
        have hl' := s1.len
        have := count_lt_rd c (rnds l j o) (rnd l (rnds l j o)) (by omega) (fun v a b => s2 v a (by omega)) v h0 (by omega) e' e
        show j + 1 + 1 ≤ (rnd l (rnds l j o)).count c
        omega
theorem rnds_least {n : Int} {l : List Run} (hn : 0 ≤ n) (hv : VL n l) : rnds l n.toNat (iota n) = leastR n l := by
  have L := leastR_lst hn l hv
  have hl := L.len
  have S0 : Sd n l (iota n) := ⟨iota_len n hn, fun v h0 h1 => by rw [rd_iota n v h0 h1]; exact .refl _⟩
  have hlen : ((rnds l n.toNat (iota n)).length : Int) = n := by
    have : ∀ j, ((rnds l j (iota n)).length : Int) = n := by
      intro j
      induction j with
      | zero => exact iota_len n hn
      | succ j ih =>
        have : ∀ (l' : List Run) (o : List Int), (rnd l' o).length = o.length := by
          intro l'
          induction l' with
          | nil => intro o; rfl
          | cons r l' ih => intro o; exact (ih _).trans (by simp [stp])
        rw [rnds, this]; exact ih
    exact this _
  refine ext_rd (by omega) fun v h0 h1 => ?_
  have hv1 : v < n := by omega
  have c0 := L.nn v h0 hv1
  have c1 := L.le v h0 hv1
  have hc : ∀ u, 0 ≤ u → u < n → Lk l (rd (leastR n l) v) u → rd (leastR n l) v ≤ u := fun u u0 u1 k => by
    have e := k.const (rd (leastR n l)) L.cl
    have e2 := (L.lk v h0 hv1).const (rd (leastR n l)) L.cl
    have := L.le u u0 u1
    omega
  obtain ⟨i1, i2, i3⟩ := rnds_full hv ⟨c0, by omega⟩ hc S0 (rd_iota n _ c0 (by omega)) n.toNat
  rcases i3 with i3 | i3
  · exact i3 v (L.lk v h0 hv1)
  · have := List.count_le_length (a := rd (leastR n l) v) (l := rnds l n.toNat (iota n))
    omega
end Go.Proofs.Ytbbpianfoimejaa.Pure
