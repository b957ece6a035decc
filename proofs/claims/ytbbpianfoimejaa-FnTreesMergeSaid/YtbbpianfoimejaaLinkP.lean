/- The least linked nodes that the program finds are those of the plain law. -/
import Derived.Test.YtbbpianfoimejaaLeastW
namespace Go.Proofs.Ytbbpianfoimejaa.Pure
open Go.RowKit Go.Proofs.Ytbbpianfoimejaa.Q Go.Proofs.Ytbbpianfoimejaa.LinkW Go.Proofs.YtbbpianfoimejaaW.PrintWords Go.Proofs.YtbbpianfoimejaaW.PrintLast Go.Proofs.YtbbpianfoimejaaW.PrintMore

theorem mem_adj {l : List Run} {v x : Int} : x ∈ adjD (dirs l) v ↔ ∃ r ∈ l, (r.f0 = v ∧ r.f1 = x) ∨ (r.f1 = v ∧ r.f0 = x) := by
  unfold adjD dirs
  simp only [List.mem_map, List.mem_filter, List.mem_flatMap, List.mem_cons, List.not_mem_nil, or_false, decide_eq_true_eq]
  constructor
  · rintro ⟨p, ⟨⟨r, hr, h⟩, h1⟩, h2⟩
    refine ⟨r, hr, ?_⟩
    rcases h with rfl | rfl
    · exact .inl ⟨h1, h2⟩
    · exact .inr ⟨h1, h2⟩
  · rintro ⟨r, hr, h | h⟩
    · exact ⟨(r.f0, r.f1), ⟨⟨r, hr, .inl rfl⟩, h.1⟩, h.2⟩
    · exact ⟨(r.f1, r.f0), ⟨⟨r, hr, .inr rfl⟩, h.1⟩, h.2⟩
theorem count_set_neg (s : Int) (hs : 0 ≤ s) : ∀ (o : List Int) (i : Nat), (h : i < o.length) → o[i] = -1 → (o.set i s).count (-1) + 1 = o.count (-1)
  | [], i, h, _ => by simp at h
  | x :: o, 0, _, e => by
    simp only [List.getElem_cons_zero] at e
    have : s ≠ -1 := by omega
    simp [List.set_cons_zero, e, this]
  | x :: o, i + 1, h, e => by
    have ih := count_set_neg s hs o i (by simpa using h) (by simpa using e)
    simp only [List.set_cons_succ, List.count_cons]
    omega
theorem count_set_rd (s : Int) (hs : 0 ≤ s) (o : List Int) (x : Int) (h0 : 0 ≤ x) (h1 : x < o.length) (e : rd o x = -1) : (o.set x.toNat s).count (-1) + 1 = o.count (-1) := by
  obtain ⟨i, rfl⟩ : ∃ i : Nat, x = i := ⟨x.toNat, by omega⟩
  rw [rd_eq o i (by omega)] at e
  exact count_set_neg s hs o i (by omega) e
/-- What is known while the start s is spread: L is the answer. -/
structure Mid (n : Int) (L o : List Int) (s : Int) : Prop where
  len : (o.length : Int) = n
  lo : ∀ v, 0 ≤ v → v < n → rd L v < s → rd o v = rd L v
  hi : ∀ v, 0 ≤ v → v < n → s < rd L v → rd o v = -1
  mi : ∀ v, 0 ≤ v → v < n → rd L v = s → rd o v = -1 ∨ rd o v = s
theorem Mid.neg {n : Int} {L o : List Int} {s : Int} (h : Mid n L o s) (hs : 0 ≤ s) {v : Int} (h0 : 0 ≤ v) (h1 : v < n) (hL : rd L v = s) : rd o v < 0 ↔ rd o v ≠ s := by
  rcases h.mi v h0 h1 hL with e | e <;> rw [e] <;> omega
theorem Mid.set {n : Int} {L o : List Int} {s : Int} (h : Mid n L o s) {x : Int} (h0 : 0 ≤ x) (h1 : x < n) (hL : rd L x = s) : Mid n L (o.set x.toNat s) s := by
  have hl := h.len
  refine ⟨by rw [List.length_set]; exact hl, fun v v0 v1 e => ?_, fun v v0 v1 e => ?_, fun v v0 v1 e => ?_⟩ <;> rw [rd_set o x v s h0 v0 (by omega)] <;> split
  · next q => subst q; omega
  · exact h.lo v v0 v1 e
  · next q => subst q; omega
  · exact h.hi v v0 v1 e
  · exact .inr rfl
  · exact h.mi v v0 v1 e
structure VisOut (n : Int) (L : List Int) (s : Int) (xs o op o' op' : List Int) : Prop where
  mid : Mid n L o' s
  grow : ∀ v, 0 ≤ v → v < n → rd o v = s → rd o' v = s
  done : ∀ x ∈ xs, rd o' x = s
  new : ∀ v, 0 ≤ v → v < n → rd o' v = s → rd o v = s ∨ v ∈ op'
  keep : ∀ x ∈ op, x ∈ op'
  ops : (∀ x ∈ op, 0 ≤ x ∧ x < n ∧ rd L x = s) → ∀ x ∈ op', 0 ≤ x ∧ x < n ∧ rd L x = s
  cnt : op'.length + o'.count (-1) = op.length + o.count (-1)
theorem vis_ok {n : Int} {L : List Int} {s : Int} (hs : 0 ≤ s) : ∀ (xs o op : List Int), (∀ x ∈ xs, 0 ≤ x ∧ x < n ∧ rd L x = s) → Mid n L o s → op.length + o.count (-1) ≤ 900 → ∃ o' op', vis s xs o op = some (o', op') ∧ VisOut n L s xs o op o' op'
  | [], o, op, _, hM, _ => ⟨o, op, rfl, hM, fun _ _ _ e => e, by simp, fun _ _ _ e => .inl e, fun _ h => h, fun h => h, rfl⟩
  | x :: xs, o, op, hx, hM, hc => by
    obtain ⟨x0, x1, xL⟩ := hx x (by simp)
    have hl := hM.len
    have hx' : ∀ y ∈ xs, 0 ≤ y ∧ y < n ∧ rd L y = s := fun y hy => hx y (by simp [hy])
    rw [vis, if_pos ⟨x0, by omega⟩]
    by_cases c : rd o x < 0
    · have hne := (hM.neg hs x0 x1 xL).1 c
      have e1 : rd o x = -1 := by rcases hM.mi x x0 x1 xL with e | e; exact e; exact absurd e hne
      have hcnt := count_set_rd s hs o x x0 (by omega) e1
      rw [if_pos c, if_pos (by omega)]
      obtain ⟨o', op', h1, h2⟩ := vis_ok hs xs (o.set x.toNat s) (op ++ [x]) hx' (hM.set x0 x1 xL) (by rw [List.length_append, List.length_singleton]; omega)
      have hset : ∀ v, 0 ≤ v → v < n → rd (o.set x.toNat s) v = if v = x then s else rd o v := fun v v0 v1 => rd_set o x v s x0 v0 (by omega)
      refine ⟨o', op', h1, h2.mid, fun v v0 v1 e => h2.grow v v0 v1 (by rw [hset v v0 v1]; split <;> simp [e]), fun y hy => ?_, fun v v0 v1 e => ?_, fun y hy => h2.keep y (by simp [hy]), fun hop => h2.ops fun y hy => ?_, ?_⟩
      · rcases List.mem_cons.1 hy with rfl | hy
        · exact h2.grow y x0 x1 (by rw [hset y x0 x1, if_pos rfl])
        · exact h2.done y hy
      · rcases h2.new v v0 v1 e with q | q
        · rw [hset v v0 v1] at q
          split at q
          · next z => exact .inr (h2.keep v (by simp [z]))
          · exact .inl q
        · exact .inr q
      · rcases List.mem_append.1 hy with q | q
        · exact hop y q
        · rw [List.mem_singleton.1 q]; exact ⟨x0, x1, xL⟩
      · have := h2.cnt
        rw [List.length_append, List.length_singleton] at this
        omega
    · rw [if_neg c]
      have e1 : rd o x = s := Classical.byContradiction fun q => c ((hM.neg hs x0 x1 xL).2 q)
      obtain ⟨o', op', h1, h2⟩ := vis_ok hs xs o op hx' hM hc
      refine ⟨o', op', h1, h2.mid, h2.grow, fun y hy => ?_, h2.new, h2.keep, h2.ops, h2.cnt⟩
      rcases List.mem_cons.1 hy with rfl | hy
      · exact h2.grow y x0 x1 e1
      · exact h2.done y hy
theorem fill_ok {n : Int} {l : List Run} {L : List Int} (hv : VL n l) (hL : Lst n l L) {s : Int} (hs : 0 ≤ s ∧ s < n) : ∀ (k : Nat) (o op : List Int), op.length + o.count (-1) < k → op.length + o.count (-1) ≤ 900 → Mid n L o s → rd o s = s →
    (∀ x ∈ op, 0 ≤ x ∧ x < n ∧ rd L x = s) → (∀ u, 0 ≤ u → u < n → rd o u = s → u ∉ op → ∀ x ∈ adjD (dirs l) u, rd o x = s) →
    ∃ o', fill (dirs l) s k o op = some o' ∧ Mid n L o' s ∧ ∀ v, 0 ≤ v → v < n → rd L v = s → rd o' v = s
  | 0, _, _, h, _, _, _, _, _ => by omega
  | k + 1, o, op, hk, hc, hM, hos, hop, hd => by
    rw [fill]
    rcases List.eq_nil_or_concat op with rfl | ⟨op, v, e⟩
    · refine ⟨o, rfl, hM, fun v v0 v1 e => ?_⟩
      have hcl : ∀ r ∈ l, (rd o r.f0 = s) = (rd o r.f1 = s) := fun r hr => by
        have hb := hv r hr
        refine propext ⟨fun q => hd r.f0 hb.1 hb.2.1 q (by simp) r.f1 (mem_adj.2 ⟨r, hr, .inl ⟨rfl, rfl⟩⟩), fun q => hd r.f1 hb.2.2.1 hb.2.2.2 q (by simp) r.f0 (mem_adj.2 ⟨r, hr, .inr ⟨rfl, rfl⟩⟩)⟩
      have := hL.lk v v0 v1
      rw [e] at this
      exact (this.const (fun x => rd o x = s) hcl).mp hos
    · have e2 : op ++ [v] = op.concat v := by simp
      rw [e, ← e2] at hk hc hop hd ⊢
      rw [List.getLast?_append, List.getLast?_singleton, List.dropLast_concat]
      dsimp only [Option.or]
      obtain ⟨v0, v1, vL⟩ := hop v (by simp)
      have hl := hM.len
      rw [List.length_append, List.length_singleton] at hk hc
      rw [if_pos ⟨v0, by omega⟩]
      have hadj : ∀ u, 0 ≤ u → u < n → rd L u = s → ∀ x ∈ adjD (dirs l) u, 0 ≤ x ∧ x < n ∧ rd L x = s := fun u u0 u1 uL x hx => by
        obtain ⟨r, hr, h | h⟩ := mem_adj.1 hx
        · have hb := hv r hr
          have := hL.cl r hr
          rw [h.1, h.2] at this
          rw [h.2] at hb
          exact ⟨hb.2.2.1, hb.2.2.2, by omega⟩
        · have hb := hv r hr
          have := hL.cl r hr
          rw [h.1, h.2] at this
          rw [h.2] at hb
          exact ⟨hb.1, hb.2.1, by omega⟩
      obtain ⟨o', op', h1, h2⟩ := vis_ok hs.1 (adjD (dirs l) v) o op (hadj v v0 v1 vL) hM (by omega)
      rw [h1]
      simp only [Option.bind_some]
      have hc2 := h2.cnt
      refine fill_ok hv hL hs k o' op' (by omega) (by omega) h2.mid (h2.grow s hs.1 hs.2 hos) (h2.ops fun x hx => hop x (by simp [hx])) (fun u u0 u1 uo hu x hx => ?_)
      by_cases q : u = v
      · subst q; exact h2.done x hx
      · rcases h2.new u u0 u1 uo with z | z
        · have hx1 := hd u u0 u1 z (by
            intro hm
            rcases List.mem_append.1 hm with y | y
            · exact hu (h2.keep u y)
            · exact q (List.mem_singleton.1 y)) x hx
          obtain ⟨r, hr, h | h⟩ := mem_adj.1 hx
          · have hb := hv r hr
            rw [h.2] at hb
            exact h2.grow x hb.2.2.1 hb.2.2.2 hx1
          · have hb := hv r hr
            rw [h.2] at hb
            exact h2.grow x hb.1 hb.2.1 hx1
        · exact absurd z hu
theorem outer_ok {m : Nat} {l : List Run} {L : List Int} (hv : VL m l) (hL : Lst m l L) (hm : m ≤ 800) (K : Nat) (hK : m + 2 < K) : ∀ (k s : Nat) (o : List Int), m - s < k → s ≤ m → o.length = m →
    (∀ v : Int, 0 ≤ v → v < m → rd L v < s → rd o v = rd L v) → (∀ v : Int, 0 ≤ v → v < m → (s : Int) ≤ rd L v → rd o v = -1) → outer (dirs l) m K k s o = some L
  | 0, _, _, h, _, _, _, _ => by omega
  | k + 1, s, o, hk, hsm, hol, h1, h2 => by
    rw [outer]
    have hLl := hL.len
    have hrep : ∀ v : Int, 0 ≤ v → v < m → rd L (rd L v) = rd L v := fun v v0 v1 => (hL.lk v v0 v1).const (rd L) hL.cl
    by_cases c : s < m
    · rw [if_pos c]
      have s0 : (0 : Int) ≤ (s : Int) := by omega
      have s1 : (s : Int) < (m : Int) := by omega
      have hle := hL.le s s0 s1
      have hnn := hL.nn s s0 s1
      by_cases q : rd L (s : Int) < s
      · have e := h1 s s0 s1 q
        rw [if_pos (by rw [e]; exact hnn)]
        refine outer_ok hv hL hm K hK k (s + 1) o (by omega) (by omega) hol (fun v v0 v1 e2 => ?_) (fun v v0 v1 e2 => h2 v v0 v1 (by omega))
        by_cases z : rd L v = s
        · have := hrep v v0 v1
          rw [z] at this
          omega
        · exact h1 v v0 v1 (by omega)
      · have eL : rd L (s : Int) = s := by omega
        have e := h2 s s0 s1 (by omega)
        rw [if_neg (by rw [e]; decide)]
        have hset : ∀ v : Int, 0 ≤ v → v < m → rd (o.set s (s : Int)) v = if v = s then (s : Int) else rd o v := fun v v0 v1 => by
          have := rd_set o (s : Int) v s s0 v0 (by omega)
          rwa [Int.toNat_natCast] at this
        have hM : Mid m L (o.set s (s : Int)) s := by
          refine ⟨by rw [List.length_set]; omega, fun v v0 v1 e2 => ?_, fun v v0 v1 e2 => ?_, fun v v0 v1 e2 => ?_⟩ <;> rw [hset v v0 v1] <;> split
          · next z => subst z; omega
          · exact h1 v v0 v1 e2
          · next z => subst z; omega
          · exact h2 v v0 v1 (by omega)
          · exact .inr rfl
          · exact .inl (h2 v v0 v1 (by omega))
        have hcl := List.count_le_length (a := (-1 : Int)) (l := o.set s (s : Int))
        rw [List.length_set] at hcl
        obtain ⟨o', f1, f2, f3⟩ := fill_ok hv hL ⟨s0, s1⟩ K (o.set s (s : Int)) [(s : Int)] (by rw [List.length_singleton]; omega) (by rw [List.length_singleton]; omega) hM (by rw [hset s s0 s1, if_pos rfl]) (by
          intro x hx
          rw [List.mem_singleton.1 hx]
          exact ⟨s0, s1, eL⟩) (fun u u0 u1 uo hu => by
            rw [hset u u0 u1, if_neg (by simpa using hu)] at uo
            exfalso
            by_cases z : rd L u < s
            · have := h1 u u0 u1 z; omega
            · have := h2 u u0 u1 (by omega); omega)
        rw [f1]
        simp only [Option.bind_some]
        have f4 := f2.len
        refine outer_ok hv hL hm K hK k (s + 1) o' (by omega) (by omega) (by omega) (fun v v0 v1 e2 => ?_) (fun v v0 v1 e2 => f2.hi v v0 v1 (by omega))
        by_cases z : rd L v = s
        · rw [f3 v v0 v1 z, z]
        · exact f2.lo v v0 v1 (by omega)
    · rw [if_neg c]
      congr 1
      refine ext_rd (by omega) fun v v0 v1 => h1 v v0 (by omega) ?_
      have := hL.le v v0 (by omega)
      omega
theorem outer_least {m : Nat} {l : List Run} (hv : VL m l) (hm : m ≤ 6) : outer (dirs l) m 100 20 0 (List.replicate m (-1)) = some (leastR m l) := by
  refine outer_ok hv (leastR_lst (by omega) l hv) (by omega) 100 (by omega) 20 0 _ (by omega) (by omega) (by simp) (fun v v0 v1 e => ?_) (fun v v0 v1 e => ?_)
  · have := (leastR_lst (n := m) (by omega) l hv).nn v v0 v1
    simp at e; omega
  · obtain ⟨i, rfl⟩ : ∃ i : Nat, v = i := ⟨v.toNat, by omega⟩
    rw [rd_eq _ i (by simp; omega)]
    simp
/-- The program's answer, at a valid net. -/
theorem leastLinked_all (n : Int) (A1 : Option Addr) (c1 : Nat) (l : List Run) (w : World) (hr1 : Kd.C k46 w A1 l.length l) (hc1 : l.length ≤ c1) (hv : nvB n l = true) :
    Calls Try.prog 48 #[.int .i64 n, .slice A1 l.length c1] w fun e w' => ∃ v1_ : Value, e = .returned v1_ ∧ Kd.R (Kd.int .i64) 3 w' w.heap.size (fun _ => True) v1_ (leastR n l) ∧ Below w.heap.size w w' := by
  have hn := nvB_n hv
  obtain ⟨m, rfl⟩ : ∃ m : Nat, n = m := ⟨n.toNat, by omega⟩
  exact least_calls m 100 20 A1 c1 l w hr1 hc1 hv _ (outer_least (nvB_VL hv) (by omega))
end Go.Proofs.Ytbbpianfoimejaa.Pure
