/- hasSide: whether a side of a ring leads from one point to another one. -/
import Derived.Test.YtiieoannejlgiaaDrawn
import Derived.Test.YtiieoannejlgiaaRingPolyValid

namespace Go.Proofs.Ytiieoannejlgiaa.Ring
open Go.RowKit Go.Shelf Go.Proofs.Ytiieoannejlgiaa.Q Go.Proofs.Ytiieoannejlgiaa.Drawn Go.Proofs.YtiieoannejlgiaaW.PrintWords Go.Proofs.YtiieoannejlgiaaW.PrintLast Go.Proofs.YtiieoannejlgiaaW.PrintMore
set_option linter.unusedVariables false
set_option linter.unusedSimpArgs false
attribute [local go_sem] Oper.semAt_some

theorem wanted_is {o : Oper} {ops : Array Oper} {tmps : Array Value} {j : Nat} {t : Tmp} {b want : Bool} (hg : o.guard = some (j, want)) (hd : (ops[j]?).bind (·.dst) = some t) (hv : tmps[t]?.getD undef = .bool b) : Region.wanted o (yielded ops tmps) = (b == want) := by
  unfold Region.wanted yielded
  rw [hg]
  dsimp only
  rw [hd]
  cases h : tmps[t]? with
  | none => rw [h] at hv; exact absurd hv (by simp [undef])
  | some v =>
    rw [h] at hv
    obtain rfl : v = .bool b := hv
    simp [h]

def hasAt (l : List Pt) (p q : Pt) (k : Nat) : Bool := sameP (at_ l k) p && sameP (nxt l k) q
def hasS (l : List Pt) (p q : Pt) : Bool := (List.range l.length).any (hasAt l p q)
theorem hasS_yes {l : List Pt} {p q : Pt} {k : Nat} (hk : k < l.length) (h : hasAt l p q k = true) : hasS l p q = true := List.any_eq_true.2 ⟨k, List.mem_range.2 hk, h⟩
theorem hasS_no {l : List Pt} {p q : Pt} (h : ∀ k, k < l.length → hasAt l p q k = false) : hasS l p q = false := by
  unfold hasS
  cases hc : (List.range l.length).any (hasAt l p q)
  · rfl
  · obtain ⟨k, hk, hh⟩ := List.any_eq_true.1 hc
    rw [h k (List.mem_range.1 hk)] at hh; cases hh
set_option maxRecDepth 100000 in
set_option maxHeartbeats 4000000 in
theorem hasSide_calls (top : Nat) (bs : Nat → Nat) (l : List Pt) (p q : Pt) (w : World) (hR : Ring w top bs l) (htop : top ≤ w.heap.size) :
    Calls Try.prog 65 #[.agg #[.pointer (some ⟨bs 0, 0, none⟩), .int .i64 l.length], .agg #[.int .i64 p.f0, .int .i64 p.f1], .agg #[.int .i64 q.f0, .int .i64 q.f1]] w fun e w' => e = .returned (.bool (hasS l p q)) ∧ Below w.heap.size w w' := by
  refine (callsIn_wide (n := 0)).1 (callsIn_of_wp_marks Try.func65 rfl trivial ?_ rfl)
  simp only [Try.ntmps65, List.size_toArray, List.length_cons, List.length_nil, Nat.reduceAdd, Nat.reduceSub, Array.replicate_succ, Array.replicate_zero, List.push_toArray, List.append_toArray, List.nil_append, List.cons_append]
  have HR := Aside0.mk hR
  clear hR
  gi_wp2
  obtain ⟨W0, hW0⟩ : ∃ W0, (((w.alloc (.cells #[.pointer (some ⟨bs 0, 0, none⟩), .int .i64 l.length] 61)).alloc (.cells #[.int .i64 p.f0, .int .i64 p.f1] 37)).alloc (.cells #[.int .i64 q.f0, .int .i64 q.f1] 37)).alloc (.cells #[.bool false] 4) = W0 := ⟨_, rfl⟩
  have hs : W0.heap.size = w.heap.size + 4 := by rw [← hW0]; simp
  have hr0 : W0.cell? ⟨w.heap.size + 3, 0, none⟩ = some (.bool false) := by rw [← hW0]; simp [go_sem]
  have hf0 : W0.frozen? ⟨w.heap.size + 3, 0, none⟩ = false := by rw [← hW0]; simp [go_sem]
  have hpa : W0.cell? ⟨w.heap.size + 1, 0, none⟩ = some (.int .i64 p.f0) := by rw [← hW0]; simp [go_sem]
  have hpb : W0.cell? ⟨w.heap.size + 1, 1, none⟩ = some (.int .i64 p.f1) := by rw [← hW0]; simp [go_sem]
  have hqa : W0.cell? ⟨w.heap.size + 2, 0, none⟩ = some (.int .i64 q.f0) := by rw [← hW0]; simp [go_sem]
  have hqb : W0.cell? ⟨w.heap.size + 2, 1, none⟩ = some (.int .i64 q.f1) := by rw [← hW0]; simp [go_sem]
  have hb0 : Below w.heap.size w W0 := by rw [← hW0]; exact ((((Below.refl _ w).alloc (Nat.le_refl _) _).alloc (by simp) _).alloc (by simp; omega) _).alloc (by simp; omega) _
  rw [hW0]
  clear hW0
  have HR0 := Aside0.mk (((HR.out.mono htop).below hb0).mono hb0.size)
  refine range_ring W0.heap.size bs l HR0.out (Nat.le_refl _) rfl
    (fun j W => (∀ i, i < j → hasAt l p q i = false) ∧ Below W0.heap.size W0 W)
    (fun c W => c = .ret ∧ (W.cell? ⟨w.heap.size + 3, 0, none⟩ = some (.bool true) ∧ Below w.heap.size w W) ∧ hasS l p q = true)
    ?hI ?hIx ⟨fun i hi => by omega, Below.refl _ _⟩ ?a1 ?assign ?body ?done ?stop
  case hI => exact fun s A B row hs' hg hr => ⟨hs'.1, ownFrom_below (β := Unit) (n₀ := W0.heap.size) (w₀ := W0) (Nat.le_refl _) (Nat.le_refl _) () A B row hs'.2 hg hr⟩
  case hIx => exact fun c A B row hs' hg hr => ⟨hs'.1, ⟨cell_kept hs'.2.1.1 hg (fun r e => (hr r e).2), ownFrom_below (β := Unit) (n₀ := w.heap.size) (w₀ := w) (Nat.le_refl _) (by omega) () A B row hs'.2.1.2 hg hr⟩, hs'.2.2⟩
  case assign =>
    intro r k W K hK
    gi_wp2
    exact hK
  case stop =>
    rintro D c W hD ⟨rfl, ⟨hc, hb⟩, hsb⟩ hK
    have HSB := Aside0.mk hsb
    clear hsb
    have hcD : (W.putObj D (.deferred none)).cell? ⟨w.heap.size + 3, 0, none⟩ = some (.bool true) := cell_kept hc (grownBy_putObj' _ D (.deferred none)) (fun r e => by cases e; exact ⟨_, hK, rfl⟩)
    gi_wp2
    refine ⟨by simp, .inl ⟨_, _, rfl, run_takeDeferred hK, ?_⟩⟩
    exact ⟨_, (by simp [results, Try.results65, go_sem, hcD]; rfl), by rw [HSB.out], hb.trans (belowK_b (w := W0) (by omega) _ _ _ _ hD hK rfl rfl)⟩
  case done =>
    rintro D W hD ⟨hp, hb⟩ hK
    have HSB := Aside0.mk (hasS_no hp)
    have hc := (hb.cell (p := ⟨w.heap.size + 3, 0, none⟩) (by dsimp only; omega)).trans hr0
    have hf := (hb.frozen (p := ⟨w.heap.size + 3, 0, none⟩) (by dsimp only; omega)).trans hf0
    have hK' := (KeepsOthers.setCell W ⟨w.heap.size + 3, 0, none⟩ (.bool false)).same D _ hK rfl
    have hcD : ((W.setCell ⟨w.heap.size + 3, 0, none⟩ (.bool false)).putObj D (.deferred none)).cell? ⟨w.heap.size + 3, 0, none⟩ = some (.bool false) := cell_kept (World.cell?_setCell_same _ _ _ hc) (grownBy_putObj' _ D (.deferred none)) (fun r e => by cases e; exact ⟨_, hK', rfl⟩)
    have hbE := ((hb0.trans (hb.mono (by omega))).setCell (p := ⟨w.heap.size + 3, 0, none⟩) (by dsimp only; omega) (.bool false)).trans (belowK_b (w := W0) (n₀ := w.heap.size) (by omega) _ _ _ (.deferred none) hD hK' rfl rfl)
    clear hp
    gi_wp2
    refine ⟨by simp, .inl ⟨_, _, rfl, run_takeDeferred hK', ?_⟩⟩
    exact ⟨_, (by simp [results, Try.results65, go_sem, hcD]; rfl), by rw [HSB.out], hbE⟩
  case body =>
    rintro r k W hk ⟨hpre, hb⟩ hbt
    have HF := wide_round Try.prog r
    have hsW := hb.size
    have hRW0 := (HR0.out.below hb).mono hsW
    have HPR := Aside0.mk hpre
    clear hpre
    have hRW := hRW0
    have hkp := hRW.pos
    have hrx := Aside0.mk (fun w' (h : Below W.heap.size W w') => (hRW.below h).x k hk)
    have hry := Aside0.mk (fun w' (h : Below W.heap.size W w') => (hRW.below h).y k hk)
    have hrn := Aside0.mk (fun w' (h : Below W.heap.size W w') => (hRW.below h).next k hk)
    have hnk : (k + 1) % l.length < l.length := Nat.mod_lt _ (by omega)
    have hnx := Aside0.mk (fun w' (h : Below W.heap.size W w') => (show w'.cell? ⟨bs ((k + 1) % l.length), 0, none⟩ = some (.int .i64 (nxt l k).f0) from (hRW.below h).x _ hnk))
    have hny := Aside0.mk (fun w' (h : Below W.heap.size W w') => (show w'.cell? ⟨bs ((k + 1) % l.length), 1, none⟩ = some (.int .i64 (nxt l k).f1) from (hRW.below h).y _ hnk))
    clear hRW
    have hp0 := (hb.cell (p := ⟨w.heap.size + 1, 0, none⟩) (by dsimp only; omega)).trans hpa
    have hp1 := (hb.cell (p := ⟨w.heap.size + 1, 1, none⟩) (by dsimp only; omega)).trans hpb
    have hq0 := (hb.cell (p := ⟨w.heap.size + 2, 0, none⟩) (by dsimp only; omega)).trans hqa
    have hq1 := (hb.cell (p := ⟨w.heap.size + 2, 1, none⟩) (by dsimp only; omega)).trans hqb
    have hr := (hb.cell (p := ⟨w.heap.size + 3, 0, none⟩) (by dsimp only; omega)).trans hr0
    have hf := (hb.frozen (p := ⟨w.heap.size + 3, 0, none⟩) (by dsimp only; omega)).trans hf0
    cases hq : sameP (at_ l k) p
    · have HQ := Aside0.mk hq
      have HN0 := Aside0.mk (show hasAt l p q k = false by unfold hasAt; rw [hq]; rfl)
      clear hq
      gi_wp2
      obtain ⟨VS, hVS⟩ : ∃ VS : List (Option Tmp × Value), [(some 12, .pointer (some ⟨bs k, 0, none⟩)), (some 13, .pointer (some ⟨bs k, 0, none⟩)), (some 14, .pointer (some ⟨bs k, 0, none⟩)), (some 15, .agg #[.int .i64 (at_ l k).f0, .int .i64 (at_ l k).f1]), (some 16, .agg #[.int .i64 p.f0, .int .i64 p.f1]), (some 17, .bool false), (some 18, .bool false), (some 19, undef), (some 20, undef), (some 21, undef), (some 22, undef), (some 23, undef), (some 24, undef), (some 25, undef), (some 26, undef), (some 27, undef), (some 28, .bool false)] = VS := ⟨_, rfl⟩
      have HN : (VS.filterMap (·.1)).Nodup := by rw [← hVS]; exact (show List.Nodup [(12 : Tmp), (13 : Tmp), (14 : Tmp), (15 : Tmp), (16 : Tmp), (17 : Tmp), (18 : Tmp), (19 : Tmp), (20 : Tmp), (21 : Tmp), (22 : Tmp), (23 : Tmp), (24 : Tmp), (25 : Tmp), (26 : Tmp), (27 : Tmp), (28 : Tmp)] by decide)
      refine act_name fun A0 hA0 => ?_
      have E4 : ∀ L : List Bool, (fill VS L A0).tmps[4]?.getD undef = .pointer (some ⟨w.heap.size + 1, 0, none⟩) := fun L => fill_old _ _ _ (by rw [← hVS]; exact (show (4 : Tmp) ∉ [(12 : Tmp), (13 : Tmp), (14 : Tmp), (15 : Tmp), (16 : Tmp), (17 : Tmp), (18 : Tmp), (19 : Tmp), (20 : Tmp), (21 : Tmp), (22 : Tmp), (23 : Tmp), (24 : Tmp), (25 : Tmp), (26 : Tmp), (27 : Tmp), (28 : Tmp)] by decide)) (by rw [← hA0]; rfl)
      have E5 : ∀ L : List Bool, (fill VS L A0).tmps[5]?.getD undef = .pointer (some ⟨w.heap.size + 2, 0, none⟩) := fun L => fill_old _ _ _ (by rw [← hVS]; exact (show (5 : Tmp) ∉ [(12 : Tmp), (13 : Tmp), (14 : Tmp), (15 : Tmp), (16 : Tmp), (17 : Tmp), (18 : Tmp), (19 : Tmp), (20 : Tmp), (21 : Tmp), (22 : Tmp), (23 : Tmp), (24 : Tmp), (25 : Tmp), (26 : Tmp), (27 : Tmp), (28 : Tmp)] by decide)) (by rw [← hA0]; rfl)
      have E7 : ∀ L : List Bool, (fill VS L A0).tmps[7]?.getD undef = .pointer (some ⟨bs k, 0, none⟩) := fun L => fill_old _ _ _ (by rw [← hVS]; exact (show (7 : Tmp) ∉ [(12 : Tmp), (13 : Tmp), (14 : Tmp), (15 : Tmp), (16 : Tmp), (17 : Tmp), (18 : Tmp), (19 : Tmp), (20 : Tmp), (21 : Tmp), (22 : Tmp), (23 : Tmp), (24 : Tmp), (25 : Tmp), (26 : Tmp), (27 : Tmp), (28 : Tmp)] by decide)) (by rw [← hA0]; rfl)
      have E12 : ∀ L : List Bool, L[0]? = some true → (fill VS L A0).tmps[12]?.getD undef = .pointer (some ⟨bs k, 0, none⟩) := fun L h => fill_at HN (j := 0) (by rw [← hVS]; rfl) h (by rw [← hA0]; simp)
      have E13 : ∀ L : List Bool, L[1]? = some true → (fill VS L A0).tmps[13]?.getD undef = .pointer (some ⟨bs k, 0, none⟩) := fun L h => fill_at HN (j := 1) (by rw [← hVS]; rfl) h (by rw [← hA0]; simp)
      have E14 : ∀ L : List Bool, L[2]? = some true → (fill VS L A0).tmps[14]?.getD undef = .pointer (some ⟨bs k, 0, none⟩) := fun L h => fill_at HN (j := 2) (by rw [← hVS]; rfl) h (by rw [← hA0]; simp)
      have E15 : ∀ L : List Bool, L[3]? = some true → (fill VS L A0).tmps[15]?.getD undef = .agg #[.int .i64 (at_ l k).f0, .int .i64 (at_ l k).f1] := fun L h => fill_at HN (j := 3) (by rw [← hVS]; rfl) h (by rw [← hA0]; simp)
      have E16 : ∀ L : List Bool, L[4]? = some true → (fill VS L A0).tmps[16]?.getD undef = .agg #[.int .i64 p.f0, .int .i64 p.f1] := fun L h => fill_at HN (j := 4) (by rw [← hVS]; rfl) h (by rw [← hA0]; simp)
      have E17 : ∀ L : List Bool, L[5]? = some true → (fill VS L A0).tmps[17]?.getD undef = .bool false := fun L h => fill_at HN (j := 5) (by rw [← hVS]; rfl) h (by rw [← hA0]; simp)
      have E18 : ∀ L : List Bool, L[6]? = some true → (fill VS L A0).tmps[18]?.getD undef = .bool false := fun L h => fill_at HN (j := 6) (by rw [← hVS]; rfl) h (by rw [← hA0]; simp)
      have E19 : ∀ L : List Bool, L[7]? = some true → (fill VS L A0).tmps[19]?.getD undef = undef := fun L h => fill_at HN (j := 7) (by rw [← hVS]; rfl) h (by rw [← hA0]; simp)
      have E20 : ∀ L : List Bool, L[8]? = some true → (fill VS L A0).tmps[20]?.getD undef = undef := fun L h => fill_at HN (j := 8) (by rw [← hVS]; rfl) h (by rw [← hA0]; simp)
      have E21 : ∀ L : List Bool, L[9]? = some true → (fill VS L A0).tmps[21]?.getD undef = undef := fun L h => fill_at HN (j := 9) (by rw [← hVS]; rfl) h (by rw [← hA0]; simp)
      have E22 : ∀ L : List Bool, L[10]? = some true → (fill VS L A0).tmps[22]?.getD undef = undef := fun L h => fill_at HN (j := 10) (by rw [← hVS]; rfl) h (by rw [← hA0]; simp)
      have E23 : ∀ L : List Bool, L[11]? = some true → (fill VS L A0).tmps[23]?.getD undef = undef := fun L h => fill_at HN (j := 11) (by rw [← hVS]; rfl) h (by rw [← hA0]; simp)
      have E24 : ∀ L : List Bool, L[12]? = some true → (fill VS L A0).tmps[24]?.getD undef = undef := fun L h => fill_at HN (j := 12) (by rw [← hVS]; rfl) h (by rw [← hA0]; simp)
      have E25 : ∀ L : List Bool, L[13]? = some true → (fill VS L A0).tmps[25]?.getD undef = undef := fun L h => fill_at HN (j := 13) (by rw [← hVS]; rfl) h (by rw [← hA0]; simp)
      have E26 : ∀ L : List Bool, L[14]? = some true → (fill VS L A0).tmps[26]?.getD undef = undef := fun L h => fill_at HN (j := 14) (by rw [← hVS]; rfl) h (by rw [← hA0]; simp)
      have E27 : ∀ L : List Bool, L[15]? = some true → (fill VS L A0).tmps[27]?.getD undef = undef := fun L h => fill_at HN (j := 15) (by rw [← hVS]; rfl) h (by rw [← hA0]; simp)
      refine drawn_same (by kernel_rfl) (early_spec (by kernel_rfl)) VS (by rw [← hVS]; rfl) HN (fun w' => Below W.heap.size W w') ((Below.refl _ _).drew) ?_ ?_
      · intro i o v L w' ho hv hpre hS K hK
        have hii : i = 0 ∨ i = 1 ∨ i = 2 ∨ i = 3 ∨ i = 4 ∨ i = 5 ∨ i = 6 ∨ i = 7 ∨ i = 8 ∨ i = 9 ∨ i = 10 ∨ i = 11 ∨ i = 12 ∨ i = 13 ∨ i = 14 ∨ i = 15 ∨ i = 16 := by have hq := (Array.getElem?_eq_some_iff.1 ho).1; simp at hq; omega
        rcases hii with rfl | rfl | rfl | rfl | rfl | rfl | rfl | rfl | rfl | rfl | rfl | rfl | rfl | rfl | rfl | rfl | rfl
        · obtain rfl := Option.some.inj ho
          obtain rfl : .pointer (some ⟨bs k, 0, none⟩) = v := (Prod.mk.inj (Option.some.inj (show (some (some 12, .pointer (some ⟨bs k, 0, none⟩)) : Option (Option Tmp × Value)) = _ from by rw [← hVS] at hv; exact hv))).2
          have e7 := E7 L
          refine st_val HF rfl (by simp) rfl (w' := w') ?_ (hK w' hS)
          generalize fill VS L A0 = A at e7 ⊢
          simp [execOp, go_sem, i64_w, e7]
        · obtain rfl := Option.some.inj ho
          obtain rfl : .pointer (some ⟨bs k, 0, none⟩) = v := (Prod.mk.inj (Option.some.inj (show (some (some 13, .pointer (some ⟨bs k, 0, none⟩)) : Option (Option Tmp × Value)) = _ from by rw [← hVS] at hv; exact hv))).2
          have e12 := E12 L (hpre ⟨0, .data⟩ (by simp) rfl)
          refine st_val HF rfl (by simp) rfl (w' := w') ?_ (hK w' hS)
          generalize fill VS L A0 = A at e12 ⊢
          simp [execOp, go_sem, i64_w, e12]
        · obtain rfl := Option.some.inj ho
          obtain rfl : .pointer (some ⟨bs k, 0, none⟩) = v := (Prod.mk.inj (Option.some.inj (show (some (some 14, .pointer (some ⟨bs k, 0, none⟩)) : Option (Option Tmp × Value)) = _ from by rw [← hVS] at hv; exact hv))).2
          have e13 := E13 L (hpre ⟨1, .data⟩ (by simp) rfl)
          refine st_val HF rfl (by simp) rfl (w' := w') ?_ (hK w' hS)
          generalize fill VS L A0 = A at e13 ⊢
          simp [execOp, go_sem, i64_w, e13]
        · obtain rfl := Option.some.inj ho
          obtain rfl : .agg #[.int .i64 (at_ l k).f0, .int .i64 (at_ l k).f1] = v := (Prod.mk.inj (Option.some.inj (show (some (some 15, .agg #[.int .i64 (at_ l k).f0, .int .i64 (at_ l k).f1]) : Option (Option Tmp × Value)) = _ from by rw [← hVS] at hv; exact hv))).2
          have e14 := E14 L (hpre ⟨2, .data⟩ (by simp) rfl)
          have c1 := hrx.out w' hS
          have c2 := hry.out w' hS
          refine st_val HF rfl (by simp) rfl (w' := w') ?_ (hK w' hS)
          generalize fill VS L A0 = A at e14 ⊢
          simp [execOp, go_sem, i64_w, e14, c1, c2]
        · obtain rfl := Option.some.inj ho
          obtain rfl : .agg #[.int .i64 p.f0, .int .i64 p.f1] = v := (Prod.mk.inj (Option.some.inj (show (some (some 16, .agg #[.int .i64 p.f0, .int .i64 p.f1]) : Option (Option Tmp × Value)) = _ from by rw [← hVS] at hv; exact hv))).2
          have e4 := E4 L
          have c1 := (hS.cell (p := ⟨w.heap.size + 1, 0, none⟩) (by dsimp only; omega)).trans hp0
          have c2 := (hS.cell (p := ⟨w.heap.size + 1, 1, none⟩) (by dsimp only; omega)).trans hp1
          refine st_val HF rfl (by simp) rfl (w' := w') ?_ (hK w' hS)
          generalize fill VS L A0 = A at e4 ⊢
          simp [execOp, go_sem, i64_w, e4, c1, c2]
        · obtain rfl := Option.some.inj ho
          obtain rfl : .bool false = v := (Prod.mk.inj (Option.some.inj (show (some (some 17, .bool false) : Option (Option Tmp × Value)) = _ from by rw [← hVS] at hv; exact hv))).2
          have e15 := E15 L (hpre ⟨3, .data⟩ (by simp) rfl)
          have e16 := E16 L (hpre ⟨4, .data⟩ (by simp) rfl)
          have e15 := E15 L (hpre ⟨3, .data⟩ (by simp) rfl)
          have e16 := E16 L (hpre ⟨4, .data⟩ (by simp) rfl)
          refine st_val HF rfl (by simp) rfl (w' := w') ?_ (hK w' hS)
          generalize fill VS L A0 = A at e15 e16 ⊢
          simp [execOp, go_sem, e15, e16, run_samePt]
          have hz_ := HQ.out
          simpa [sameP] using hz_
        · obtain rfl := Option.some.inj ho
          obtain rfl : .bool false = v := (Prod.mk.inj (Option.some.inj (show (some (some 18, .bool false) : Option (Option Tmp × Value)) = _ from by rw [← hVS] at hv; exact hv))).2
          have e17 := E17 L (hpre ⟨5, .data⟩ (by simp) rfl)
          refine st_val HF rfl (by simp) rfl (w' := w') ?_ (hK w' hS)
          generalize fill VS L A0 = A at e17 ⊢
          simp [execOp, go_sem, i64_w, e17]
        · obtain rfl := Option.some.inj ho
          obtain rfl : undef = v := (Prod.mk.inj (Option.some.inj (show (some (some 19, undef) : Option (Option Tmp × Value)) = _ from by rw [← hVS] at hv; exact hv))).2
          have eg := E18 L (hpre ⟨6, .guard⟩ (by simp) rfl)
          exact st_unwanted HF rfl ((wanted_is rfl rfl eg).trans rfl) (hK w' hS)
        · obtain rfl := Option.some.inj ho
          obtain rfl : undef = v := (Prod.mk.inj (Option.some.inj (show (some (some 20, undef) : Option (Option Tmp × Value)) = _ from by rw [← hVS] at hv; exact hv))).2
          have eg := E18 L (hpre ⟨6, .guard⟩ (by simp) rfl)
          exact st_unwanted HF rfl ((wanted_is rfl rfl eg).trans rfl) (hK w' hS)
        · obtain rfl := Option.some.inj ho
          obtain rfl : undef = v := (Prod.mk.inj (Option.some.inj (show (some (some 21, undef) : Option (Option Tmp × Value)) = _ from by rw [← hVS] at hv; exact hv))).2
          have eg := E18 L (hpre ⟨6, .guard⟩ (by simp) rfl)
          exact st_unwanted HF rfl ((wanted_is rfl rfl eg).trans rfl) (hK w' hS)
        · obtain rfl := Option.some.inj ho
          obtain rfl : undef = v := (Prod.mk.inj (Option.some.inj (show (some (some 22, undef) : Option (Option Tmp × Value)) = _ from by rw [← hVS] at hv; exact hv))).2
          have eg := E18 L (hpre ⟨6, .guard⟩ (by simp) rfl)
          exact st_unwanted HF rfl ((wanted_is rfl rfl eg).trans rfl) (hK w' hS)
        · obtain rfl := Option.some.inj ho
          obtain rfl : undef = v := (Prod.mk.inj (Option.some.inj (show (some (some 23, undef) : Option (Option Tmp × Value)) = _ from by rw [← hVS] at hv; exact hv))).2
          have eg := E18 L (hpre ⟨6, .guard⟩ (by simp) rfl)
          exact st_unwanted HF rfl ((wanted_is rfl rfl eg).trans rfl) (hK w' hS)
        · obtain rfl := Option.some.inj ho
          obtain rfl : undef = v := (Prod.mk.inj (Option.some.inj (show (some (some 24, undef) : Option (Option Tmp × Value)) = _ from by rw [← hVS] at hv; exact hv))).2
          have eg := E18 L (hpre ⟨6, .guard⟩ (by simp) rfl)
          exact st_unwanted HF rfl ((wanted_is rfl rfl eg).trans rfl) (hK w' hS)
        · obtain rfl := Option.some.inj ho
          obtain rfl : undef = v := (Prod.mk.inj (Option.some.inj (show (some (some 25, undef) : Option (Option Tmp × Value)) = _ from by rw [← hVS] at hv; exact hv))).2
          have eg := E18 L (hpre ⟨6, .guard⟩ (by simp) rfl)
          exact st_unwanted HF rfl ((wanted_is rfl rfl eg).trans rfl) (hK w' hS)
        · obtain rfl := Option.some.inj ho
          obtain rfl : undef = v := (Prod.mk.inj (Option.some.inj (show (some (some 26, undef) : Option (Option Tmp × Value)) = _ from by rw [← hVS] at hv; exact hv))).2
          have eg := E18 L (hpre ⟨6, .guard⟩ (by simp) rfl)
          exact st_unwanted HF rfl ((wanted_is rfl rfl eg).trans rfl) (hK w' hS)
        · obtain rfl := Option.some.inj ho
          obtain rfl : undef = v := (Prod.mk.inj (Option.some.inj (show (some (some 27, undef) : Option (Option Tmp × Value)) = _ from by rw [← hVS] at hv; exact hv))).2
          have eg := E18 L (hpre ⟨6, .guard⟩ (by simp) rfl)
          exact st_unwanted HF rfl ((wanted_is rfl rfl eg).trans rfl) (hK w' hS)
        · obtain rfl := Option.some.inj ho
          obtain rfl : .bool false = v := (Prod.mk.inj (Option.some.inj (show (some (some 28, .bool false) : Option (Option Tmp × Value)) = _ from by rw [← hVS] at hv; exact hv))).2
          have e18 := E18 L (hpre ⟨6, .data⟩ (by simp) rfl)
          have e27 := E27 L (hpre ⟨15, .data⟩ (by simp) rfl)
          refine st_val HF rfl (by simp) rfl (w' := w') ?_ (hK w' hS)
          generalize fill VS L A0 = A at e18 e27 ⊢
          simp [execOp, go_sem, i64_w, e18, e27]
      · intro w' hS'
        rw [← hVS, ← hA0]
        simp only [List.size_toArray, List.length_cons, List.length_nil, Nat.reduceAdd, List.replicate, fill, if_true, Act.put, List.setIfInBounds_toArray, List.set_cons_succ, List.set_cons_zero]
        clear HN E4 E5 E7 E12 E13 E14 E15 E16 E17 E18 E19 E20 E21 E22 E23 E24 E25 E26 E27 hVS hA0
        have HS := Aside0.mk hS'
        clear hS'
        gi_wp2
        exact ⟨KeepsFrom.of_below HS.out, HS.out.mono hsW, fun i hi => by
          by_cases e : i = k
          · subst e; exact HN0.out
          · exact HPR.out i (by omega), hb.trans (HS.out.mono hsW)⟩
    · have HQ := Aside0.mk hq
      have HN0 := Aside0.mk (show hasAt l p q k = sameP (nxt l k) q by unfold hasAt; rw [hq, Bool.true_and])
      clear hq
      gi_wp2
      obtain ⟨VS, hVS⟩ : ∃ VS : List (Option Tmp × Value), [(some 12, .pointer (some ⟨bs k, 0, none⟩)), (some 13, .pointer (some ⟨bs k, 0, none⟩)), (some 14, .pointer (some ⟨bs k, 0, none⟩)), (some 15, .agg #[.int .i64 (at_ l k).f0, .int .i64 (at_ l k).f1]), (some 16, .agg #[.int .i64 p.f0, .int .i64 p.f1]), (some 17, .bool true), (some 18, .bool true), (some 19, .pointer (some ⟨bs k, 0, none⟩)), (some 20, .pointer (some ⟨bs k, 0, none⟩)), (some 21, .pointer (some ⟨bs k, 2, none⟩)), (some 22, .pointer (some ⟨bs ((k + 1) % l.length), 0, none⟩)), (some 23, .pointer (some ⟨bs ((k + 1) % l.length), 0, none⟩)), (some 24, .pointer (some ⟨bs ((k + 1) % l.length), 0, none⟩)), (some 25, .agg #[.int .i64 (nxt l k).f0, .int .i64 (nxt l k).f1]), (some 26, .agg #[.int .i64 q.f0, .int .i64 q.f1]), (some 27, .bool (sameP (nxt l k) q)), (some 28, .bool (sameP (nxt l k) q))] = VS := ⟨_, rfl⟩
      have HN : (VS.filterMap (·.1)).Nodup := by rw [← hVS]; exact (show List.Nodup [(12 : Tmp), (13 : Tmp), (14 : Tmp), (15 : Tmp), (16 : Tmp), (17 : Tmp), (18 : Tmp), (19 : Tmp), (20 : Tmp), (21 : Tmp), (22 : Tmp), (23 : Tmp), (24 : Tmp), (25 : Tmp), (26 : Tmp), (27 : Tmp), (28 : Tmp)] by decide)
      refine act_name fun A0 hA0 => ?_
      have E4 : ∀ L : List Bool, (fill VS L A0).tmps[4]?.getD undef = .pointer (some ⟨w.heap.size + 1, 0, none⟩) := fun L => fill_old _ _ _ (by rw [← hVS]; exact (show (4 : Tmp) ∉ [(12 : Tmp), (13 : Tmp), (14 : Tmp), (15 : Tmp), (16 : Tmp), (17 : Tmp), (18 : Tmp), (19 : Tmp), (20 : Tmp), (21 : Tmp), (22 : Tmp), (23 : Tmp), (24 : Tmp), (25 : Tmp), (26 : Tmp), (27 : Tmp), (28 : Tmp)] by decide)) (by rw [← hA0]; rfl)
      have E5 : ∀ L : List Bool, (fill VS L A0).tmps[5]?.getD undef = .pointer (some ⟨w.heap.size + 2, 0, none⟩) := fun L => fill_old _ _ _ (by rw [← hVS]; exact (show (5 : Tmp) ∉ [(12 : Tmp), (13 : Tmp), (14 : Tmp), (15 : Tmp), (16 : Tmp), (17 : Tmp), (18 : Tmp), (19 : Tmp), (20 : Tmp), (21 : Tmp), (22 : Tmp), (23 : Tmp), (24 : Tmp), (25 : Tmp), (26 : Tmp), (27 : Tmp), (28 : Tmp)] by decide)) (by rw [← hA0]; rfl)
      have E7 : ∀ L : List Bool, (fill VS L A0).tmps[7]?.getD undef = .pointer (some ⟨bs k, 0, none⟩) := fun L => fill_old _ _ _ (by rw [← hVS]; exact (show (7 : Tmp) ∉ [(12 : Tmp), (13 : Tmp), (14 : Tmp), (15 : Tmp), (16 : Tmp), (17 : Tmp), (18 : Tmp), (19 : Tmp), (20 : Tmp), (21 : Tmp), (22 : Tmp), (23 : Tmp), (24 : Tmp), (25 : Tmp), (26 : Tmp), (27 : Tmp), (28 : Tmp)] by decide)) (by rw [← hA0]; rfl)
      have E12 : ∀ L : List Bool, L[0]? = some true → (fill VS L A0).tmps[12]?.getD undef = .pointer (some ⟨bs k, 0, none⟩) := fun L h => fill_at HN (j := 0) (by rw [← hVS]; rfl) h (by rw [← hA0]; simp)
      have E13 : ∀ L : List Bool, L[1]? = some true → (fill VS L A0).tmps[13]?.getD undef = .pointer (some ⟨bs k, 0, none⟩) := fun L h => fill_at HN (j := 1) (by rw [← hVS]; rfl) h (by rw [← hA0]; simp)
      have E14 : ∀ L : List Bool, L[2]? = some true → (fill VS L A0).tmps[14]?.getD undef = .pointer (some ⟨bs k, 0, none⟩) := fun L h => fill_at HN (j := 2) (by rw [← hVS]; rfl) h (by rw [← hA0]; simp)
      have E15 : ∀ L : List Bool, L[3]? = some true → (fill VS L A0).tmps[15]?.getD undef = .agg #[.int .i64 (at_ l k).f0, .int .i64 (at_ l k).f1] := fun L h => fill_at HN (j := 3) (by rw [← hVS]; rfl) h (by rw [← hA0]; simp)
      have E16 : ∀ L : List Bool, L[4]? = some true → (fill VS L A0).tmps[16]?.getD undef = .agg #[.int .i64 p.f0, .int .i64 p.f1] := fun L h => fill_at HN (j := 4) (by rw [← hVS]; rfl) h (by rw [← hA0]; simp)
      have E17 : ∀ L : List Bool, L[5]? = some true → (fill VS L A0).tmps[17]?.getD undef = .bool true := fun L h => fill_at HN (j := 5) (by rw [← hVS]; rfl) h (by rw [← hA0]; simp)
      have E18 : ∀ L : List Bool, L[6]? = some true → (fill VS L A0).tmps[18]?.getD undef = .bool true := fun L h => fill_at HN (j := 6) (by rw [← hVS]; rfl) h (by rw [← hA0]; simp)
      have E19 : ∀ L : List Bool, L[7]? = some true → (fill VS L A0).tmps[19]?.getD undef = .pointer (some ⟨bs k, 0, none⟩) := fun L h => fill_at HN (j := 7) (by rw [← hVS]; rfl) h (by rw [← hA0]; simp)
      have E20 : ∀ L : List Bool, L[8]? = some true → (fill VS L A0).tmps[20]?.getD undef = .pointer (some ⟨bs k, 0, none⟩) := fun L h => fill_at HN (j := 8) (by rw [← hVS]; rfl) h (by rw [← hA0]; simp)
      have E21 : ∀ L : List Bool, L[9]? = some true → (fill VS L A0).tmps[21]?.getD undef = .pointer (some ⟨bs k, 2, none⟩) := fun L h => fill_at HN (j := 9) (by rw [← hVS]; rfl) h (by rw [← hA0]; simp)
      have E22 : ∀ L : List Bool, L[10]? = some true → (fill VS L A0).tmps[22]?.getD undef = .pointer (some ⟨bs ((k + 1) % l.length), 0, none⟩) := fun L h => fill_at HN (j := 10) (by rw [← hVS]; rfl) h (by rw [← hA0]; simp)
      have E23 : ∀ L : List Bool, L[11]? = some true → (fill VS L A0).tmps[23]?.getD undef = .pointer (some ⟨bs ((k + 1) % l.length), 0, none⟩) := fun L h => fill_at HN (j := 11) (by rw [← hVS]; rfl) h (by rw [← hA0]; simp)
      have E24 : ∀ L : List Bool, L[12]? = some true → (fill VS L A0).tmps[24]?.getD undef = .pointer (some ⟨bs ((k + 1) % l.length), 0, none⟩) := fun L h => fill_at HN (j := 12) (by rw [← hVS]; rfl) h (by rw [← hA0]; simp)
      have E25 : ∀ L : List Bool, L[13]? = some true → (fill VS L A0).tmps[25]?.getD undef = .agg #[.int .i64 (nxt l k).f0, .int .i64 (nxt l k).f1] := fun L h => fill_at HN (j := 13) (by rw [← hVS]; rfl) h (by rw [← hA0]; simp)
      have E26 : ∀ L : List Bool, L[14]? = some true → (fill VS L A0).tmps[26]?.getD undef = .agg #[.int .i64 q.f0, .int .i64 q.f1] := fun L h => fill_at HN (j := 14) (by rw [← hVS]; rfl) h (by rw [← hA0]; simp)
      have E27 : ∀ L : List Bool, L[15]? = some true → (fill VS L A0).tmps[27]?.getD undef = .bool (sameP (nxt l k) q) := fun L h => fill_at HN (j := 15) (by rw [← hVS]; rfl) h (by rw [← hA0]; simp)
      refine drawn_same (by kernel_rfl) (early_spec (by kernel_rfl)) VS (by rw [← hVS]; rfl) HN (fun w' => Below W.heap.size W w') ((Below.refl _ _).drew) ?_ ?_
      · intro i o v L w' ho hv hpre hS K hK
        have hii : i = 0 ∨ i = 1 ∨ i = 2 ∨ i = 3 ∨ i = 4 ∨ i = 5 ∨ i = 6 ∨ i = 7 ∨ i = 8 ∨ i = 9 ∨ i = 10 ∨ i = 11 ∨ i = 12 ∨ i = 13 ∨ i = 14 ∨ i = 15 ∨ i = 16 := by have hq := (Array.getElem?_eq_some_iff.1 ho).1; simp at hq; omega
        rcases hii with rfl | rfl | rfl | rfl | rfl | rfl | rfl | rfl | rfl | rfl | rfl | rfl | rfl | rfl | rfl | rfl | rfl
        · obtain rfl := Option.some.inj ho
          obtain rfl : .pointer (some ⟨bs k, 0, none⟩) = v := (Prod.mk.inj (Option.some.inj (show (some (some 12, .pointer (some ⟨bs k, 0, none⟩)) : Option (Option Tmp × Value)) = _ from by rw [← hVS] at hv; exact hv))).2
          have e7 := E7 L
          refine st_val HF rfl (by simp) rfl (w' := w') ?_ (hK w' hS)
          generalize fill VS L A0 = A at e7 ⊢
          simp [execOp, go_sem, i64_w, e7]
        · obtain rfl := Option.some.inj ho
          obtain rfl : .pointer (some ⟨bs k, 0, none⟩) = v := (Prod.mk.inj (Option.some.inj (show (some (some 13, .pointer (some ⟨bs k, 0, none⟩)) : Option (Option Tmp × Value)) = _ from by rw [← hVS] at hv; exact hv))).2
          have e12 := E12 L (hpre ⟨0, .data⟩ (by simp) rfl)
          refine st_val HF rfl (by simp) rfl (w' := w') ?_ (hK w' hS)
          generalize fill VS L A0 = A at e12 ⊢
          simp [execOp, go_sem, i64_w, e12]
        · obtain rfl := Option.some.inj ho
          obtain rfl : .pointer (some ⟨bs k, 0, none⟩) = v := (Prod.mk.inj (Option.some.inj (show (some (some 14, .pointer (some ⟨bs k, 0, none⟩)) : Option (Option Tmp × Value)) = _ from by rw [← hVS] at hv; exact hv))).2
          have e13 := E13 L (hpre ⟨1, .data⟩ (by simp) rfl)
          refine st_val HF rfl (by simp) rfl (w' := w') ?_ (hK w' hS)
          generalize fill VS L A0 = A at e13 ⊢
          simp [execOp, go_sem, i64_w, e13]
        · obtain rfl := Option.some.inj ho
          obtain rfl : .agg #[.int .i64 (at_ l k).f0, .int .i64 (at_ l k).f1] = v := (Prod.mk.inj (Option.some.inj (show (some (some 15, .agg #[.int .i64 (at_ l k).f0, .int .i64 (at_ l k).f1]) : Option (Option Tmp × Value)) = _ from by rw [← hVS] at hv; exact hv))).2
          have e14 := E14 L (hpre ⟨2, .data⟩ (by simp) rfl)
          have c1 := hrx.out w' hS
          have c2 := hry.out w' hS
          refine st_val HF rfl (by simp) rfl (w' := w') ?_ (hK w' hS)
          generalize fill VS L A0 = A at e14 ⊢
          simp [execOp, go_sem, i64_w, e14, c1, c2]
        · obtain rfl := Option.some.inj ho
          obtain rfl : .agg #[.int .i64 p.f0, .int .i64 p.f1] = v := (Prod.mk.inj (Option.some.inj (show (some (some 16, .agg #[.int .i64 p.f0, .int .i64 p.f1]) : Option (Option Tmp × Value)) = _ from by rw [← hVS] at hv; exact hv))).2
          have e4 := E4 L
          have c1 := (hS.cell (p := ⟨w.heap.size + 1, 0, none⟩) (by dsimp only; omega)).trans hp0
          have c2 := (hS.cell (p := ⟨w.heap.size + 1, 1, none⟩) (by dsimp only; omega)).trans hp1
          refine st_val HF rfl (by simp) rfl (w' := w') ?_ (hK w' hS)
          generalize fill VS L A0 = A at e4 ⊢
          simp [execOp, go_sem, i64_w, e4, c1, c2]
        · obtain rfl := Option.some.inj ho
          obtain rfl : .bool true = v := (Prod.mk.inj (Option.some.inj (show (some (some 17, .bool true) : Option (Option Tmp × Value)) = _ from by rw [← hVS] at hv; exact hv))).2
          have e15 := E15 L (hpre ⟨3, .data⟩ (by simp) rfl)
          have e16 := E16 L (hpre ⟨4, .data⟩ (by simp) rfl)
          have e15 := E15 L (hpre ⟨3, .data⟩ (by simp) rfl)
          have e16 := E16 L (hpre ⟨4, .data⟩ (by simp) rfl)
          refine st_val HF rfl (by simp) rfl (w' := w') ?_ (hK w' hS)
          generalize fill VS L A0 = A at e15 e16 ⊢
          simp [execOp, go_sem, e15, e16, run_samePt]
          have hz_ := HQ.out
          simpa [sameP] using hz_
        · obtain rfl := Option.some.inj ho
          obtain rfl : .bool true = v := (Prod.mk.inj (Option.some.inj (show (some (some 18, .bool true) : Option (Option Tmp × Value)) = _ from by rw [← hVS] at hv; exact hv))).2
          have e17 := E17 L (hpre ⟨5, .data⟩ (by simp) rfl)
          refine st_val HF rfl (by simp) rfl (w' := w') ?_ (hK w' hS)
          generalize fill VS L A0 = A at e17 ⊢
          simp [execOp, go_sem, i64_w, e17]
        · obtain rfl := Option.some.inj ho
          obtain rfl : .pointer (some ⟨bs k, 0, none⟩) = v := (Prod.mk.inj (Option.some.inj (show (some (some 19, .pointer (some ⟨bs k, 0, none⟩)) : Option (Option Tmp × Value)) = _ from by rw [← hVS] at hv; exact hv))).2
          have eg := E18 L (hpre ⟨6, .guard⟩ (by simp) rfl)
          have e7 := E7 L
          refine st_val HF rfl (by simp) ((wanted_is rfl rfl eg).trans rfl) (w' := w') ?_ (hK w' hS)
          generalize fill VS L A0 = A at e7 ⊢
          simp [execOp, go_sem, i64_w, e7]
        · obtain rfl := Option.some.inj ho
          obtain rfl : .pointer (some ⟨bs k, 0, none⟩) = v := (Prod.mk.inj (Option.some.inj (show (some (some 20, .pointer (some ⟨bs k, 0, none⟩)) : Option (Option Tmp × Value)) = _ from by rw [← hVS] at hv; exact hv))).2
          have eg := E18 L (hpre ⟨6, .guard⟩ (by simp) rfl)
          have e19 := E19 L (hpre ⟨7, .data⟩ (by simp) rfl)
          refine st_val HF rfl (by simp) ((wanted_is rfl rfl eg).trans rfl) (w' := w') ?_ (hK w' hS)
          generalize fill VS L A0 = A at e19 ⊢
          simp [execOp, go_sem, i64_w, e19]
        · obtain rfl := Option.some.inj ho
          obtain rfl : .pointer (some ⟨bs k, 2, none⟩) = v := (Prod.mk.inj (Option.some.inj (show (some (some 21, .pointer (some ⟨bs k, 2, none⟩)) : Option (Option Tmp × Value)) = _ from by rw [← hVS] at hv; exact hv))).2
          have eg := E18 L (hpre ⟨6, .guard⟩ (by simp) rfl)
          have e20 := E20 L (hpre ⟨8, .data⟩ (by simp) rfl)
          refine st_val HF rfl (by simp) ((wanted_is rfl rfl eg).trans rfl) (w' := w') ?_ (hK w' hS)
          generalize fill VS L A0 = A at e20 ⊢
          simp [execOp, go_sem, i64_w, e20]
        · obtain rfl := Option.some.inj ho
          obtain rfl : .pointer (some ⟨bs ((k + 1) % l.length), 0, none⟩) = v := (Prod.mk.inj (Option.some.inj (show (some (some 22, .pointer (some ⟨bs ((k + 1) % l.length), 0, none⟩)) : Option (Option Tmp × Value)) = _ from by rw [← hVS] at hv; exact hv))).2
          have eg := E18 L (hpre ⟨6, .guard⟩ (by simp) rfl)
          have e21 := E21 L (hpre ⟨9, .data⟩ (by simp) rfl)
          have c1 := hrn.out w' hS
          refine st_val HF rfl (by simp) ((wanted_is rfl rfl eg).trans rfl) (w' := w') ?_ (hK w' hS)
          generalize fill VS L A0 = A at e21 ⊢
          simp [execOp, go_sem, i64_w, e21, c1]
        · obtain rfl := Option.some.inj ho
          obtain rfl : .pointer (some ⟨bs ((k + 1) % l.length), 0, none⟩) = v := (Prod.mk.inj (Option.some.inj (show (some (some 23, .pointer (some ⟨bs ((k + 1) % l.length), 0, none⟩)) : Option (Option Tmp × Value)) = _ from by rw [← hVS] at hv; exact hv))).2
          have eg := E18 L (hpre ⟨6, .guard⟩ (by simp) rfl)
          have e22 := E22 L (hpre ⟨10, .data⟩ (by simp) rfl)
          refine st_val HF rfl (by simp) ((wanted_is rfl rfl eg).trans rfl) (w' := w') ?_ (hK w' hS)
          generalize fill VS L A0 = A at e22 ⊢
          simp [execOp, go_sem, i64_w, e22]
        · obtain rfl := Option.some.inj ho
          obtain rfl : .pointer (some ⟨bs ((k + 1) % l.length), 0, none⟩) = v := (Prod.mk.inj (Option.some.inj (show (some (some 24, .pointer (some ⟨bs ((k + 1) % l.length), 0, none⟩)) : Option (Option Tmp × Value)) = _ from by rw [← hVS] at hv; exact hv))).2
          have eg := E18 L (hpre ⟨6, .guard⟩ (by simp) rfl)
          have e23 := E23 L (hpre ⟨11, .data⟩ (by simp) rfl)
          refine st_val HF rfl (by simp) ((wanted_is rfl rfl eg).trans rfl) (w' := w') ?_ (hK w' hS)
          generalize fill VS L A0 = A at e23 ⊢
          simp [execOp, go_sem, i64_w, e23]
        · obtain rfl := Option.some.inj ho
          obtain rfl : .agg #[.int .i64 (nxt l k).f0, .int .i64 (nxt l k).f1] = v := (Prod.mk.inj (Option.some.inj (show (some (some 25, .agg #[.int .i64 (nxt l k).f0, .int .i64 (nxt l k).f1]) : Option (Option Tmp × Value)) = _ from by rw [← hVS] at hv; exact hv))).2
          have eg := E18 L (hpre ⟨6, .guard⟩ (by simp) rfl)
          have e24 := E24 L (hpre ⟨12, .data⟩ (by simp) rfl)
          have c1 := hnx.out w' hS
          have c2 := hny.out w' hS
          refine st_val HF rfl (by simp) ((wanted_is rfl rfl eg).trans rfl) (w' := w') ?_ (hK w' hS)
          generalize fill VS L A0 = A at e24 ⊢
          simp [execOp, go_sem, i64_w, e24, c1, c2]
        · obtain rfl := Option.some.inj ho
          obtain rfl : .agg #[.int .i64 q.f0, .int .i64 q.f1] = v := (Prod.mk.inj (Option.some.inj (show (some (some 26, .agg #[.int .i64 q.f0, .int .i64 q.f1]) : Option (Option Tmp × Value)) = _ from by rw [← hVS] at hv; exact hv))).2
          have eg := E18 L (hpre ⟨6, .guard⟩ (by simp) rfl)
          have e5 := E5 L
          have c1 := (hS.cell (p := ⟨w.heap.size + 2, 0, none⟩) (by dsimp only; omega)).trans hq0
          have c2 := (hS.cell (p := ⟨w.heap.size + 2, 1, none⟩) (by dsimp only; omega)).trans hq1
          refine st_val HF rfl (by simp) ((wanted_is rfl rfl eg).trans rfl) (w' := w') ?_ (hK w' hS)
          generalize fill VS L A0 = A at e5 ⊢
          simp [execOp, go_sem, i64_w, e5, c1, c2]
        · obtain rfl := Option.some.inj ho
          obtain rfl : .bool (sameP (nxt l k) q) = v := (Prod.mk.inj (Option.some.inj (show (some (some 27, .bool (sameP (nxt l k) q)) : Option (Option Tmp × Value)) = _ from by rw [← hVS] at hv; exact hv))).2
          have eg := E18 L (hpre ⟨6, .guard⟩ (by simp) rfl)
          have e25 := E25 L (hpre ⟨13, .data⟩ (by simp) rfl)
          have e26 := E26 L (hpre ⟨14, .data⟩ (by simp) rfl)
          have e25 := E25 L (hpre ⟨13, .data⟩ (by simp) rfl)
          have e26 := E26 L (hpre ⟨14, .data⟩ (by simp) rfl)
          refine st_val HF rfl (by simp) ((wanted_is rfl rfl eg).trans rfl) (w' := w') ?_ (hK w' hS)
          generalize fill VS L A0 = A at e25 e26 ⊢
          simp [execOp, go_sem, e25, e26, run_samePt]
          rfl
        · obtain rfl := Option.some.inj ho
          obtain rfl : .bool (sameP (nxt l k) q) = v := (Prod.mk.inj (Option.some.inj (show (some (some 28, .bool (sameP (nxt l k) q)) : Option (Option Tmp × Value)) = _ from by rw [← hVS] at hv; exact hv))).2
          have e18 := E18 L (hpre ⟨6, .data⟩ (by simp) rfl)
          have e27 := E27 L (hpre ⟨15, .data⟩ (by simp) rfl)
          refine st_val HF rfl (by simp) rfl (w' := w') ?_ (hK w' hS)
          generalize fill VS L A0 = A at e18 e27 ⊢
          simp [execOp, go_sem, i64_w, e18, e27]
      · intro w' hS'
        rw [← hVS, ← hA0]
        simp only [List.size_toArray, List.length_cons, List.length_nil, Nat.reduceAdd, List.replicate, fill, if_true, Act.put, List.setIfInBounds_toArray, List.set_cons_succ, List.set_cons_zero]
        clear HN E4 E5 E7 E12 E13 E14 E15 E16 E17 E18 E19 E20 E21 E22 E23 E24 E25 E26 E27 hVS hA0
        have HS := Aside0.mk hS'
        have jr := (hS'.cell (p := ⟨w.heap.size + 3, 0, none⟩) (by dsimp only; omega)).trans hr
        have jf := (hS'.frozen (p := ⟨w.heap.size + 3, 0, none⟩) (by dsimp only; omega)).trans hf
        clear hS' hr hf
        cases hz : sameP (nxt l k) q
        · have HZ := Aside0.mk (HN0.out.trans hz)
          clear hz
          gi_wp2
          exact ⟨KeepsFrom.of_below HS.out, HS.out.mono hsW, fun i hi => by
            by_cases e : i = k
            · subst e; exact HZ.out
            · exact HPR.out i (by omega), hb.trans (HS.out.mono hsW)⟩
        · have HZ := Aside0.mk (hasS_yes hk (HN0.out.trans hz))
          clear hz
          gi_wp2
          exact ⟨(KeepsFrom.of_below HS.out).trans ((KeepsOthers.setCell _ _ _).from _), rfl, ⟨World.cell?_setCell_same _ _ _ jr, (hb0.trans ((hb.trans (HS.out.mono hsW)).mono (by omega))).setCell (p := ⟨w.heap.size + 3, 0, none⟩) (by dsimp only; omega) _⟩, HZ.out⟩

end Go.Proofs.Ytiieoannejlgiaa.Ring
