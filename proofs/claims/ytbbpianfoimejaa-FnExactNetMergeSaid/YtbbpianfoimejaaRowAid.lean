/- Arguments of a law that are slices of structs of integers, or slices of slices of integers: opened to plain lists. -/
import Derived.Deep.Slices
import Derived.Deep.Fields
import Derived.Deep.Matrix
import Derived.ChangeSame
import Derived.ChangeArms
import Derived.Test.YtbbpianfoimejaaWMore
namespace Go.Proofs.Ytbbpianfoimejaa.RowAid
open Go.ChangeShapes Go.WideShapes Go.Deep Go.RowKit Go.Proofs.YtbbpianfoimejaaW.PrintWords

section
variable {H : Type} {enc : TypeId × Value → H} {P : Program} {w : World} {base : Nat} {spare : Nat → Bool} {held : Bool}
theorem open_slice_fields {t e : TypeId} {fs : Array Field} {fuel : Nat} {cs : List Value} {x : DataW H × List MemPlace} (ht : P.underlying t = some (.slice e)) (he : P.underlying e = some (.struct fs))
    (hone : oneCellFields P fs = true) (hC : P.cellsOf e = fs.size) (h : DataW.trod enc P w base spare held fuel t cs = some x) :
    (cs = [.slice none 0 0] ∧ x = (.nil, [])) ∨
    ∃ (a : Addr) (len cap m : Nat) (D : Nat → DataW H) (Pl : Nat → List MemPlace), cs = [.slice (some a) len cap] ∧ base ≤ a.block ∧ len ≤ cap ∧ cap ≤ maxLen ∧ m = (if spare a.block then cap else len) ∧
      x = (.slice ((List.range len).map D) ((List.range (m - len)).map fun j => D (len + j)), MemPlace.row a (m * fs.size) ++ (List.range m).flatMap Pl) ∧
      ∀ i, i < m → ∃ (ys : List (DataW H × List MemPlace)) (n : Nat), D i = .agg (ys.map (·.1)) ∧ Pl i = ys.flatMap (·.2) ∧ ys.length = fs.size ∧
        ∀ (j : Nat) (f : Field), fs[j]? = some f → ∃ (v : Value) (y : DataW H × List MemPlace), w.cell? (a.add (i * fs.size + j)) = some v ∧ ys[j]? = some y ∧ DataW.trod enc P w base spare held n f.type [v] = some y := by
  rcases open_slice ht h with h0 | ⟨a, len, cap, m, n, D, Pl, hcs, hb, hl, hm, hmm, hx, hi⟩
  · exact .inl h0
  · refine .inr ⟨a, len, cap, m, D, Pl, hcs, hb, hl, hm, hmm, by rw [hC] at hx; exact hx, fun i him => ?_⟩
    obtain ⟨cs', hc, ht'⟩ := hi i him
    rw [hC] at hc
    obtain ⟨ys, n', hn', hy, hlen, hyl, hf⟩ := DataW.trod_struct he ht'
    obtain ⟨_, hcl, hat⟩ := World.cells?_some hc
    simp only [Prod.mk.injEq] at hy
    refine ⟨ys, n', hy.1, hy.2, hyl, fun j f hj => ?_⟩
    obtain ⟨ho, hk⟩ := hone_of hone j f hj
    have hjl : j < fs.size := (Array.getElem?_eq_some_iff.1 hj).1
    have hcell := hat j hjl
    have hv : cs'[j]? = some (cs'[j]'(by omega)) := List.getElem?_eq_getElem (by omega)
    have h1 := hf j f hj
    rw [ho, hk] at h1
    have hone' : (cs'.drop j).take 1 = [cs'[j]'(by omega)] := by
      rw [List.drop_eq_getElem_cons (by omega)]
      rfl
    rw [hone'] at h1
    have hys : ys[j]? = some (ys[j]'(by omega)) := List.getElem?_eq_getElem (by omega)
    refine ⟨_, _, ?_, hys, h1.trans hys⟩
    rw [← Go.Deep.add_add, hcell, hv]
end

theorem list_choose {α : Type} {n : Nat} {Q : Nat → α → Prop} (h : ∀ i, i < n → ∃ a, Q i a) : ∃ l : List α, l.length = n ∧ ∀ i a, l[i]? = some a → Q i a := by
  induction n with
  | zero => exact ⟨[], rfl, fun i a hi => by simp at hi⟩
  | succ n ih =>
    obtain ⟨l, hl, hq⟩ := ih (fun i hi => h i (by omega))
    obtain ⟨a, ha⟩ := h n (by omega)
    refine ⟨l ++ [a], by simp [hl], fun i b hb => ?_⟩
    rcases Nat.lt_or_ge i l.length with hi | hi
    · rw [List.getElem?_append_left hi] at hb; exact hq i b hb
    · rw [List.getElem?_append_right hi] at hb
      have hlt : i - l.length < 1 := by
        rcases Nat.lt_or_ge (i - l.length) 1 with h1 | h1
        · exact h1
        · rw [List.getElem?_eq_none (by simpa using h1)] at hb; cases hb
      have e : i = n := by omega
      subst e
      rw [show i - l.length = 0 by omega] at hb
      simp at hb
      subst hb
      exact ha

section
variable {H : Type} {enc : TypeId × Value → H} {P : Program} {w : World} {base : Nat} {held : Bool}
/-- A slice of structs of integers that came in: its elements as lists of integers. -/
theorem open_structs {t e : TypeId} {fs : Array Field} {fuel : Nat} {cs : List Value} {x : DataW H × List MemPlace} (ht : P.underlying t = some (.slice e)) (he : P.underlying e = some (.struct fs))
    (hone : oneCellFields P fs = true) (hC : P.cellsOf e = fs.size) (hint : ∀ (j : Nat) (f : Field), fs[j]? = some f → P.underlying f.type = some (.int .i64))
    (h : DataW.trod enc P w base (fun _ => true) held fuel t cs = some x) :
    ∃ (a : Option Addr) (len cap : Nat) (zs : List (List Int)), cs = [.slice a len cap] ∧ len ≤ cap ∧ cap ≤ maxLen ∧ zs.length = len ∧ (∀ z ∈ zs, z.length = fs.size ∧ ∀ n ∈ z, (Lit.int .i64 n).wf = true) ∧
      (0 < len → ∃ ad, a = some ad ∧ ∀ i z, zs[i]? = some z → ∀ j n, z[j]? = some n → w.cell? (ad.add (i * fs.size + j)) = some (.int .i64 n)) := by
  rcases open_slice_fields ht he hone hC h with ⟨rfl, _⟩ | ⟨a, len, cap, m, D, Pl, rfl, hb, hl, hm, hmm, hx, hi⟩
  · exact ⟨none, 0, 0, [], rfl, Nat.le_refl _, Nat.zero_le _, rfl, fun z hz => (by cases hz), fun h0 => absurd h0 (by omega)⟩
  · have each : ∀ i, i < len → ∃ z : List Int, z.length = fs.size ∧ (∀ n ∈ z, (Lit.int .i64 n).wf = true) ∧ ∀ j n, z[j]? = some n → w.cell? (a.add (i * fs.size + j)) = some (.int .i64 n) := by
      intro i hil
      have him : i < m := by rw [hmm]; split <;> omega
      obtain ⟨ys, n', _, _, hyl, hf⟩ := hi i him
      have eachj : ∀ j, j < fs.size → ∃ n : Int, (Lit.int .i64 n).wf = true ∧ w.cell? (a.add (i * fs.size + j)) = some (.int .i64 n) := by
        intro j hj
        obtain ⟨v, y, hcell, hy, ht'⟩ := hf j fs[j] (Array.getElem?_eq_getElem hj)
        obtain ⟨n, hv, _, hw⟩ := DataW.trod_int (hint j fs[j] (Array.getElem?_eq_getElem hj)) ht'
        simp only [List.cons.injEq, and_true] at hv
        exact ⟨n, hw, by rw [hcell, hv]⟩
      obtain ⟨z, hz, hq⟩ := list_choose eachj
      refine ⟨z, hz, fun n hn => ?_, fun j n hj => (hq j n hj).2⟩
      obtain ⟨j, hj, rfl⟩ := List.mem_iff_getElem.1 hn
      exact (hq j _ (List.getElem?_eq_getElem hj)).1
    obtain ⟨zs, hzs, hq⟩ := list_choose each
    refine ⟨some a, len, cap, zs, rfl, hl, hm, hzs, fun z hz => ?_, fun _ => ⟨a, rfl, fun i z hiz => (hq i z hiz).2.2⟩⟩
    obtain ⟨i, hil, rfl⟩ := List.mem_iff_getElem.1 hz
    have := hq i _ (List.getElem?_eq_getElem hil)
    exact ⟨this.1, this.2.1⟩

/-- .. as the kind tells it. -/
theorem C_of_structs {α : Type} {d : Kd α} {sz : Nat} {a : Option Addr} {zs : List (List Int)} (mk : List Int → α) (hsz : d.sz = sz) (hK : ∀ (w : World) (z : List Int), z.length = sz → d.K w (mk z) (z.map (Value.int .i64)))
    (hl : zs.length ≤ maxLen) (hz : ∀ z ∈ zs, z.length = sz) (hc : 0 < zs.length → ∃ ad, a = some ad ∧ ∀ i z, zs[i]? = some z → ∀ j n, z[j]? = some n → w.cell? (ad.add (i * sz + j)) = some (.int .i64 n)) :
    Kd.C d w a (zs.map mk).length (zs.map mk) := by
  unfold maxLen at hl
  refine ⟨rfl, by simp; omega, fun h0 => ?_⟩
  obtain ⟨ad, ha, hcell⟩ := hc (by simpa using h0)
  refine ⟨ad, ha, fun j p hj => ?_⟩
  rw [List.getElem?_map, Option.map_eq_some_iff] at hj
  obtain ⟨z, hjz, rfl⟩ := hj
  have hlen : z.length = sz := hz z (List.mem_of_getElem? hjz)
  refine ⟨z.map (Value.int .i64), by simp [hlen, hsz], hK w z hlen, fun i u hu => ?_⟩
  rw [List.getElem?_map, Option.map_eq_some_iff] at hu
  obtain ⟨n, hn, rfl⟩ := hu
  rw [hsz]
  exact hcell j z hjz i n hn

/-- A slice of slices of integers that came in. -/
theorem open_rows {t e q : TypeId} {fuel : Nat} {cs : List Value} {x : DataW H × List MemPlace} (ht : P.underlying t = some (.slice e)) (he : P.underlying e = some (.slice q)) (hq : P.underlying q = some (.int .i64))
    (ce : P.cellsOf e = 1) (cq : P.cellsOf q = 1) (h : DataW.trod enc P w base (fun _ => true) held fuel t cs = some x) :
    ∃ (a : Option Addr) (len cap : Nat) (l : List (List Int)), cs = [.slice a len cap] ∧ len ≤ cap ∧ cap ≤ maxLen ∧ l.length = len ∧ (∀ r ∈ l, r.length ≤ maxLen ∧ ∀ n ∈ r, (Lit.int .i64 n).wf = true) ∧ Kd.C (Kd.slice q (Kd.int .i64)) w a l.length l := by
  rcases open_int_rows ht he hq ce cq h with ⟨rfl, _⟩ | ⟨a, len, cap, A, L, C, Z, rfl, hb, hl, hm, _, hr⟩
  · exact ⟨none, 0, 0, [], rfl, Nat.le_refl _, Nat.zero_le _, rfl, fun z hz => (by cases hz), rfl, (by simp), fun h0 => absurd h0 (by simp)⟩
  · refine ⟨some a, len, cap, (List.range len).map fun r => (Z r).take (L r), rfl, hl, hm, by simp, fun r hrm => ?_, ?_⟩
    · rw [List.mem_map] at hrm
      obtain ⟨i, hi, rfl⟩ := hrm
      rw [List.mem_range] at hi
      obtain ⟨_, h1, h2, h3, h4, _⟩ := hr i (by omega)
      exact ⟨by rw [List.length_take]; omega, fun n hn => h4 n (List.mem_of_mem_take hn)⟩
    · have hm' := hm
      unfold maxLen at hm'
      refine ⟨rfl, by simp; omega, fun _ => ⟨a, rfl, fun j p hj => ?_⟩⟩
      rw [List.getElem?_map, Option.map_eq_some_iff] at hj
      obtain ⟨i, hi, rfl⟩ := hj
      have hjl : j < len := by
        rcases Nat.lt_or_ge j len with h1 | h1
        · exact h1
        · rw [List.getElem?_eq_none (by simpa using h1)] at hi; cases hi
      rw [List.getElem?_eq_getElem (by simpa using hjl)] at hi
      simp at hi
      subst hi
      obtain ⟨hc, h1, h2, h3, h4, h5, h6⟩ := hr j (by omega)
      have hlen : ((Z j).take (L j)).length = L j := by rw [List.length_take]; omega
      refine ⟨[.slice (A j) (L j) (C j)], rfl, ⟨A j, C j, by rw [hlen], by omega, ?_⟩, fun i u hu => ?_⟩
      · rw [hlen]
        unfold maxLen at h2
        refine Kd.C_of_reads (d := (0 : Int)) (h1 := fun _ => rfl) ⟨hlen, by omega, fun h0 => ?_⟩
        cases hA : A j with
        | none => have := h5 hA; omega
        | some ad =>
          refine ⟨ad, rfl, fun c hcl => ?_⟩
          rw [(h6 ad hA).2 c (by omega)]
          congr 2
          simp only [List.getD_eq_getElem?_getD, List.getElem?_take]
          rw [if_pos hcl]
      · cases i with
        | zero => simp at hu; subst hu; rw [show j * (Kd.slice q (Kd.int IntKind.i64)).sz + 0 = j from by show j * 1 + 0 = j; omega]; exact hc
        | succ i => simp at hu
end
end Go.Proofs.Ytbbpianfoimejaa.RowAid
