/- The place of a point against a ring of corners. -/
import Derived.Test.YtiieoannejlgiaaDrawn
import Derived.Test.YtiieoannejlgiaaRingSimple
import Derived.Test.YtiieoannejlgiaaQ21
import Derived.Test.YtiieoannejlgiaaQ22
namespace Go.Proofs.Ytiieoannejlgiaa.Ring
open Go.RowKit Go.Shelf Go.Proofs.Ytiieoannejlgiaa.Q Go.Proofs.Ytiieoannejlgiaa.Drawn Go.Proofs.YtiieoannejlgiaaW.PrintWords Go.Proofs.YtiieoannejlgiaaW.PrintLast Go.Proofs.YtiieoannejlgiaaW.PrintMore
set_option linter.unusedVariables false
set_option linter.unusedSimpArgs false
attribute [local go_sem] Oper.semAt_some
def flipB (a b p : Pt) : Bool := (decide (p.f1 < a.f1) != decide (p.f1 < b.f1)) && (decide (a.f1 < b.f1) == decide (0 < sgnP a b p))
def placeV (l : List Pt) (p : Pt) : Nat → Int
  | 0 => -1
  | j + 1 => if flipB (at_ l j) (nxt l j) p then -(placeV l p j) else placeV l p j
theorem placeV_bd (l : List Pt) (p : Pt) (j : Nat) : placeV l p j = 1 ∨ placeV l p j = -1 := by
  induction j with
  | zero => exact .inr rfl
  | succ j ih => simp only [placeV]; split <;> omega
def onAt (l : List Pt) (p : Pt) (j : Nat) : Bool := onPt (at_ l j) (nxt l j) p
def placeR (l : List Pt) (p : Pt) : Int := if (List.range l.length).any (onAt l p) then 0 else placeV l p l.length
theorem placeR_on {l : List Pt} {p : Pt} {j : Nat} (hj : j < l.length) (h : onAt l p j = true) : placeR l p = 0 := by
  unfold placeR
  rw [if_pos (List.any_eq_true.2 ⟨j, List.mem_range.2 hj, h⟩)]
theorem placeR_off {l : List Pt} {p : Pt} (h : ∀ j, j < l.length → onAt l p j = false) : placeR l p = placeV l p l.length := by
  unfold placeR
  rw [if_neg]
  intro c
  obtain ⟨j, hj, hc⟩ := List.any_eq_true.1 c
  rw [h j (List.mem_range.1 hj)] at hc; cases hc
theorem sgnP_f (p q r : Pt) (hp : Pure.PV p.f0 p.f1 = true ∧ Pure.PV q.f0 q.f1 = true ∧ Pure.PV r.f0 r.f1 = true) : impl_PointSide.f 1 p.f0 p.f1 q.f0 q.f1 r.f0 r.f1 = some (sgnP p q r, true) := by
  rw [Pure.impl_PointSide_eq 0, Pure.sideR_yes hp.1 hp.2.1 hp.2.2]
  unfold sgnP
  rw [Pure.sideR_yes hp.1 hp.2.1 hp.2.2]
def sidB (p q r : Pt) : Bool := (Pure.sideR p.f0 p.f1 q.f0 q.f1 r.f0 r.f1).2
theorem sideI_f (p q r : Pt) : impl_PointSide.f 1 p.f0 p.f1 q.f0 q.f1 r.f0 r.f1 = some (sgnP p q r, sidB p q r) := Pure.impl_PointSide_eq 0 _ _ _ _ _ _
set_option maxRecDepth 100000 in
set_option maxHeartbeats 4000000 in
theorem place_calls (top : Nat) (bs : Nat → Nat) (l : List Pt) (p : Pt) (w : World) (hR : Ring w top bs l) (htop : top ≤ w.heap.size) :
    Calls Try.prog 64 #[.agg #[.pointer (some ⟨bs 0, 0, none⟩), .int .i64 l.length], .agg #[.int .i64 p.f0, .int .i64 p.f1]] w fun e w' => e = .returned (.int .i64 (placeR l p)) ∧ Below w.heap.size w w' := by
  refine (callsIn_wide (n := 0)).1 (callsIn_of_wp_marks Try.func64 rfl trivial ?_ rfl)
  simp only [Try.ntmps64, List.size_toArray, List.length_cons, List.length_nil, Nat.reduceAdd, Nat.reduceSub, Array.replicate_succ, Array.replicate_zero, List.push_toArray, List.append_toArray, List.nil_append, List.cons_append]
  have HR := Aside0.mk hR
  clear hR
  gi_wp2
  obtain ⟨W0, hW0⟩ : ∃ W0, (((w.alloc (.cells #[.pointer (some ⟨bs 0, 0, none⟩), .int .i64 l.length] 54)).alloc (.cells #[.int .i64 p.f0, .int .i64 p.f1] 37)).alloc (.cells #[.int .i64 0] 3)).alloc (.cells #[.int .i64 (-1)] 3) = W0 := ⟨_, rfl⟩
  have hs : W0.heap.size = w.heap.size + 4 := by rw [← hW0]; simp
  have hc0 : W0.cell? ⟨w.heap.size + 2, 0, none⟩ = some (.int .i64 0) := by rw [← hW0]; simp [go_sem]
  have hf0 : W0.frozen? ⟨w.heap.size + 2, 0, none⟩ = false := by rw [← hW0]; simp [go_sem]
  have hv0 : W0.cell? ⟨w.heap.size + 3, 0, none⟩ = some (.int .i64 (-1)) := by rw [← hW0]; simp [go_sem]
  have hw0 : W0.frozen? ⟨w.heap.size + 3, 0, none⟩ = false := by rw [← hW0]; simp [go_sem]
  have hp0 : W0.cell? ⟨w.heap.size + 1, 0, none⟩ = some (.int .i64 p.f0) := by rw [← hW0]; simp [go_sem]
  have hp1 : W0.cell? ⟨w.heap.size + 1, 1, none⟩ = some (.int .i64 p.f1) := by rw [← hW0]; simp [go_sem]
  have hb0 : Below w.heap.size w W0 := by rw [← hW0]; exact ((((Below.refl _ w).alloc (Nat.le_refl _) _).alloc (by simp) _).alloc (by simp; omega) _).alloc (by simp; omega) _
  rw [hW0]
  clear hW0
  have HR0 := Aside0.mk ((HR.out.mono htop).below hb0)
  refine range_ring (w.heap.size + 3) bs l (HR0.out.mono (by omega)) (by omega) rfl
    (fun j W => (∀ i, i < j → onAt l p i = false) ∧ (W.cell? ⟨w.heap.size + 3, 0, none⟩ = some (.int .i64 (placeV l p j)) ∧ W.frozen? ⟨w.heap.size + 3, 0, none⟩ = false) ∧ Below (w.heap.size + 3) W0 W)
    (fun c W => c = .ret ∧ (W.cell? ⟨w.heap.size + 2, 0, none⟩ = some (.int .i64 0) ∧ Below w.heap.size w W) ∧ placeR l p = 0)
    ?hI ?hIx ⟨fun i hi => by omega, ⟨hv0, hw0⟩, Below.refl _ _⟩ ?a1 ?assign ?body ?done ?stop
  case hI => exact fun s A B row hs' hg hr => ⟨hs'.1, ⟨cell_kept hs'.2.1.1 hg (fun r e => (hr r e).2), (frozen_kept hs'.2.1.1 hg (fun r e => (hr r e).2)).trans hs'.2.1.2⟩, ownFrom_below (β := Unit) (by omega) (by omega) () A B row hs'.2.2 hg hr⟩
  case hIx => exact fun c A B row hs' hg hr => ⟨hs'.1, ⟨cell_kept hs'.2.1.1 hg (fun r e => (hr r e).2), ownFrom_below (β := Unit) (n₀ := w.heap.size) (w₀ := w) (Nat.le_refl _) (by omega) () A B row hs'.2.1.2 hg hr⟩, hs'.2.2⟩
  case assign =>
    intro r k W K hK
    gi_wp2
    exact hK
  case stop =>
    rintro D c W hD ⟨rfl, ⟨hc, hb⟩, hsb⟩ hK
    have HSB := Aside0.mk hsb
    clear hsb
    have hcD : (W.putObj D (.deferred none)).cell? ⟨w.heap.size + 2, 0, none⟩ = some (.int .i64 0) := cell_kept hc (grownBy_putObj' _ D (.deferred none)) (fun r e => by cases e; exact ⟨_, hK, rfl⟩)
    gi_wp2
    refine ⟨by simp, .inl ⟨_, _, rfl, run_takeDeferred hK, ?_⟩⟩
    exact ⟨_, (by simp [results, Try.results64, go_sem, hcD]; rfl), by rw [HSB.out], hb.trans (belowK_b (w := W0) (by omega) _ _ _ _ hD hK rfl rfl)⟩
  case done =>
    rintro D W hD ⟨hp, ⟨hv, hvf⟩, hb⟩ hK
    have HSB := Aside0.mk (placeR_off hp)
    have hc := (hb.cell (p := ⟨w.heap.size + 2, 0, none⟩) (by dsimp only; omega)).trans hc0
    have hf := (hb.frozen (p := ⟨w.heap.size + 2, 0, none⟩) (by dsimp only; omega)).trans hf0
    have hK' := (KeepsOthers.setCell W ⟨w.heap.size + 2, 0, none⟩ (.int .i64 (placeV l p l.length))).same D _ hK rfl
    have hcD : ((W.setCell ⟨w.heap.size + 2, 0, none⟩ (.int .i64 (placeV l p l.length))).putObj D (.deferred none)).cell? ⟨w.heap.size + 2, 0, none⟩ = some (.int .i64 (placeV l p l.length)) := cell_kept (World.cell?_setCell_same _ _ _ hc) (grownBy_putObj' _ D (.deferred none)) (fun r e => by cases e; exact ⟨_, hK', rfl⟩)
    have hbE := ((hb0.trans (hb.mono (by omega))).setCell (p := ⟨w.heap.size + 2, 0, none⟩) (by dsimp only; omega) (.int .i64 (placeV l p l.length))).trans (belowK_b (w := W0) (n₀ := w.heap.size) (by omega) _ _ _ (.deferred none) hD hK' rfl rfl)
    clear hp
    gi_wp2
    refine ⟨by simp, .inl ⟨_, _, rfl, run_takeDeferred hK', ?_⟩⟩
    exact ⟨_, (by simp [results, Try.results64, go_sem, hcD]; rfl), by rw [HSB.out], hbE⟩
  case body =>
    rintro r k W hk ⟨hpre, ⟨hv, hvf⟩, hb⟩ hbt
    have HF := wide_round Try.prog r
    have hsW := hb.size
    have hRW0 := ((HR0.out.mono (show w.heap.size ≤ w.heap.size + 3 by omega)).below hb).mono (show w.heap.size + 3 ≤ W.heap.size by omega)
    have hRW := hRW0
    have hkp := hRW.pos
    have hrx := Aside0.mk (fun w' (h : Below W.heap.size W w') => (hRW.below h).x k hk)
    have hry := Aside0.mk (fun w' (h : Below W.heap.size W w') => (hRW.below h).y k hk)
    have hrn := Aside0.mk (fun w' (h : Below W.heap.size W w') => (hRW.below h).next k hk)
    have hnk : (k + 1) % l.length < l.length := Nat.mod_lt _ (by omega)
    have hnx := Aside0.mk (fun w' (h : Below W.heap.size W w') => (show w'.cell? ⟨bs ((k + 1) % l.length), 0, none⟩ = some (.int .i64 (nxt l k).f0) from (hRW.below h).x _ hnk))
    have hny := Aside0.mk (fun w' (h : Below W.heap.size W w') => (show w'.cell? ⟨bs ((k + 1) % l.length), 1, none⟩ = some (.int .i64 (nxt l k).f1) from (hRW.below h).y _ hnk))
    clear hRW
    have hpx := (hb.cell (p := ⟨w.heap.size + 1, 0, none⟩) (by dsimp only; omega)).trans hp0
    have hpy := (hb.cell (p := ⟨w.heap.size + 1, 1, none⟩) (by dsimp only; omega)).trans hp1
    have hc := (hb.cell (p := ⟨w.heap.size + 2, 0, none⟩) (by dsimp only; omega)).trans hc0
    have hf := (hb.frozen (p := ⟨w.heap.size + 2, 0, none⟩) (by dsimp only; omega)).trans hf0
    have HV := Aside0.mk (placeV_bd l p k)
    gi_wp2
    obtain ⟨VS, hVS⟩ : ∃ VS : (Nat → Nat) → List (Option Tmp × Value), (fun B => [(some 14, .pointer (some ⟨bs k, 0, none⟩)), (some 15, .pointer (some ⟨bs k, 0, none⟩)), (some 16, .pointer (some ⟨bs k, 0, none⟩)), (some 17, .agg #[.int .i64 (at_ l k).f0, .int .i64 (at_ l k).f1]), (some 18, .pointer (some ⟨bs k, 0, none⟩)), (some 19, .pointer (some ⟨bs k, 0, none⟩)), (some 20, .pointer (some ⟨bs k, 2, none⟩)), (some 21, .pointer (some ⟨bs ((k + 1) % l.length), 0, none⟩)), (some 22, .pointer (some ⟨bs ((k + 1) % l.length), 0, none⟩)), (some 23, .pointer (some ⟨bs ((k + 1) % l.length), 0, none⟩)), (some 24, .agg #[.int .i64 (nxt l k).f0, .int .i64 (nxt l k).f1]), (some 7, .pointer (some ⟨B 0, 0, none⟩)), (some 8, .pointer (some ⟨B 1, 0, none⟩)), (none, undef), (none, undef)]) = VS := ⟨_, rfl⟩
    have HN : ∀ B, ((VS B).filterMap (·.1)).Nodup := fun B => by rw [← hVS]; exact (show List.Nodup [(14 : Tmp), (15 : Tmp), (16 : Tmp), (17 : Tmp), (18 : Tmp), (19 : Tmp), (20 : Tmp), (21 : Tmp), (22 : Tmp), (23 : Tmp), (24 : Tmp), (7 : Tmp), (8 : Tmp)] by decide)
    refine act_name fun A0 hA0 => ?_
    have E6 : ∀ (B : Nat → Nat) (L : List Bool), (fill (VS B) L A0).tmps[6]?.getD undef = .pointer (some ⟨bs k, 0, none⟩) := fun B L => fill_old _ _ _ (by rw [← hVS]; exact (show (6 : Tmp) ∉ [(14 : Tmp), (15 : Tmp), (16 : Tmp), (17 : Tmp), (18 : Tmp), (19 : Tmp), (20 : Tmp), (21 : Tmp), (22 : Tmp), (23 : Tmp), (24 : Tmp), (7 : Tmp), (8 : Tmp)] by decide)) (by rw [← hA0]; rfl)
    have E7 : ∀ (B : Nat → Nat) (L : List Bool), L[11]? = some true → (fill (VS B) L A0).tmps[7]?.getD undef = .pointer (some ⟨B 0, 0, none⟩) := fun B L h => fill_at (HN B) (j := 11) (by rw [← hVS]; rfl) h (by rw [← hA0]; simp)
    have E8 : ∀ (B : Nat → Nat) (L : List Bool), L[12]? = some true → (fill (VS B) L A0).tmps[8]?.getD undef = .pointer (some ⟨B 1, 0, none⟩) := fun B L h => fill_at (HN B) (j := 12) (by rw [← hVS]; rfl) h (by rw [← hA0]; simp)
    have E14 : ∀ (B : Nat → Nat) (L : List Bool), L[0]? = some true → (fill (VS B) L A0).tmps[14]?.getD undef = .pointer (some ⟨bs k, 0, none⟩) := fun B L h => fill_at (HN B) (j := 0) (by rw [← hVS]; rfl) h (by rw [← hA0]; simp)
    have E15 : ∀ (B : Nat → Nat) (L : List Bool), L[1]? = some true → (fill (VS B) L A0).tmps[15]?.getD undef = .pointer (some ⟨bs k, 0, none⟩) := fun B L h => fill_at (HN B) (j := 1) (by rw [← hVS]; rfl) h (by rw [← hA0]; simp)
    have E16 : ∀ (B : Nat → Nat) (L : List Bool), L[2]? = some true → (fill (VS B) L A0).tmps[16]?.getD undef = .pointer (some ⟨bs k, 0, none⟩) := fun B L h => fill_at (HN B) (j := 2) (by rw [← hVS]; rfl) h (by rw [← hA0]; simp)
    have E17 : ∀ (B : Nat → Nat) (L : List Bool), L[3]? = some true → (fill (VS B) L A0).tmps[17]?.getD undef = .agg #[.int .i64 (at_ l k).f0, .int .i64 (at_ l k).f1] := fun B L h => fill_at (HN B) (j := 3) (by rw [← hVS]; rfl) h (by rw [← hA0]; simp)
    have E18 : ∀ (B : Nat → Nat) (L : List Bool), L[4]? = some true → (fill (VS B) L A0).tmps[18]?.getD undef = .pointer (some ⟨bs k, 0, none⟩) := fun B L h => fill_at (HN B) (j := 4) (by rw [← hVS]; rfl) h (by rw [← hA0]; simp)
    have E19 : ∀ (B : Nat → Nat) (L : List Bool), L[5]? = some true → (fill (VS B) L A0).tmps[19]?.getD undef = .pointer (some ⟨bs k, 0, none⟩) := fun B L h => fill_at (HN B) (j := 5) (by rw [← hVS]; rfl) h (by rw [← hA0]; simp)
    have E20 : ∀ (B : Nat → Nat) (L : List Bool), L[6]? = some true → (fill (VS B) L A0).tmps[20]?.getD undef = .pointer (some ⟨bs k, 2, none⟩) := fun B L h => fill_at (HN B) (j := 6) (by rw [← hVS]; rfl) h (by rw [← hA0]; simp)
    have E21 : ∀ (B : Nat → Nat) (L : List Bool), L[7]? = some true → (fill (VS B) L A0).tmps[21]?.getD undef = .pointer (some ⟨bs ((k + 1) % l.length), 0, none⟩) := fun B L h => fill_at (HN B) (j := 7) (by rw [← hVS]; rfl) h (by rw [← hA0]; simp)
    have E22 : ∀ (B : Nat → Nat) (L : List Bool), L[8]? = some true → (fill (VS B) L A0).tmps[22]?.getD undef = .pointer (some ⟨bs ((k + 1) % l.length), 0, none⟩) := fun B L h => fill_at (HN B) (j := 8) (by rw [← hVS]; rfl) h (by rw [← hA0]; simp)
    have E23 : ∀ (B : Nat → Nat) (L : List Bool), L[9]? = some true → (fill (VS B) L A0).tmps[23]?.getD undef = .pointer (some ⟨bs ((k + 1) % l.length), 0, none⟩) := fun B L h => fill_at (HN B) (j := 9) (by rw [← hVS]; rfl) h (by rw [← hA0]; simp)
    have E24 : ∀ (B : Nat → Nat) (L : List Bool), L[10]? = some true → (fill (VS B) L A0).tmps[24]?.getD undef = .agg #[.int .i64 (nxt l k).f0, .int .i64 (nxt l k).f1] := fun B L h => fill_at (HN B) (j := 10) (by rw [← hVS]; rfl) h (by rw [← hA0]; simp)
    have hSa : ∀ w' : World, W.heap.size ≤ w'.heap.size → (fun w' => Below W.heap.size W w') w' → ∀ o, (fun w' => Below W.heap.size W w') (w'.alloc o) := fun w' hz h o => h.alloc hz o
    have hSs : ∀ (w' : World) (p : Addr) (v : Value), W.heap.size ≤ p.block → (fun w' => Below W.heap.size W w') w' → (fun w' => Below W.heap.size W w') (w'.setCell p v) := fun w' p v hp h => h.setCell hp v
    refine drawn_any (by kernel_rfl) (early_spec (by kernel_rfl)) (show List.Nodup [(14 : Tmp), (15 : Tmp), (16 : Tmp), (17 : Tmp), (18 : Tmp), (19 : Tmp), (20 : Tmp), (21 : Tmp), (22 : Tmp), (23 : Tmp), (24 : Tmp), (7 : Tmp), (8 : Tmp)] by decide) (fun L vs w' => ∃ B : Nat → Nat, vs = VS B ∧ Boxes (W.heap.size) (fun w' => Below W.heap.size W w') 2 (fun t => 11 + t) (fun t => 13 + t) (fun t => match t with | 0 => ((at_ l k).f0, (at_ l k).f1) | _ => ((nxt l k).f0, (nxt l k).f1)) L B w') (fun L vs w' h => by obtain ⟨B, rfl, _⟩ := h; rw [← hVS]; rfl) (VS (fun _ => 0)) ⟨fun _ => 0, rfl, Boxes.start ((Below.refl _ _).drew) (by simp) _⟩ ?_ ?_
    · intro i o vs L w' ho hl hli hpre hcl hV K hK
      obtain ⟨B, rfl, hT⟩ := hV
      have hS := hT.s
      have hii : i = 0 ∨ i = 1 ∨ i = 2 ∨ i = 3 ∨ i = 4 ∨ i = 5 ∨ i = 6 ∨ i = 7 ∨ i = 8 ∨ i = 9 ∨ i = 10 ∨ i = 11 ∨ i = 12 ∨ i = 13 ∨ i = 14 := by have hq := (Array.getElem?_eq_some_iff.1 ho).1; simp at hq; omega
      rcases hii with rfl | rfl | rfl | rfl | rfl | rfl | rfl | rfl | rfl | rfl | rfl | rfl | rfl | rfl | rfl
      · obtain rfl := Option.some.inj ho
        have e6 := E6 B L
        refine st_val HF rfl (by simp) rfl (v := .pointer (some ⟨bs k, 0, none⟩)) (w' := w') ?_ (hK _ w' ⟨B, by rw [← hVS]; rfl, hT.keep (fun t ht => by omega) (fun t ht => by omega)⟩)
        generalize fill (VS B) L A0 = A at e6 ⊢
        simp [execOp, go_sem, i64_w, e6]
      · obtain rfl := Option.some.inj ho
        have e14 := E14 B L (hpre ⟨0, .data⟩ (by simp) rfl)
        refine st_val HF rfl (by simp) rfl (v := .pointer (some ⟨bs k, 0, none⟩)) (w' := w') ?_ (hK _ w' ⟨B, by rw [← hVS]; rfl, hT.keep (fun t ht => by omega) (fun t ht => by omega)⟩)
        generalize fill (VS B) L A0 = A at e14 ⊢
        simp [execOp, go_sem, i64_w, e14]
      · obtain rfl := Option.some.inj ho
        have e15 := E15 B L (hpre ⟨1, .data⟩ (by simp) rfl)
        refine st_val HF rfl (by simp) rfl (v := .pointer (some ⟨bs k, 0, none⟩)) (w' := w') ?_ (hK _ w' ⟨B, by rw [← hVS]; rfl, hT.keep (fun t ht => by omega) (fun t ht => by omega)⟩)
        generalize fill (VS B) L A0 = A at e15 ⊢
        simp [execOp, go_sem, i64_w, e15]
      · obtain rfl := Option.some.inj ho
        have e16 := E16 B L (hpre ⟨2, .data⟩ (by simp) rfl)
        have c1 := hrx.out w' hS
        have c2 := hry.out w' hS
        refine st_val HF rfl (by simp) rfl (v := .agg #[.int .i64 (at_ l k).f0, .int .i64 (at_ l k).f1]) (w' := w') ?_ (hK _ w' ⟨B, by rw [← hVS]; rfl, hT.keep (fun t ht => by omega) (fun t ht => by omega)⟩)
        generalize fill (VS B) L A0 = A at e16 ⊢
        simp [execOp, go_sem, i64_w, e16, c1, c2]
      · obtain rfl := Option.some.inj ho
        have e6 := E6 B L
        refine st_val HF rfl (by simp) rfl (v := .pointer (some ⟨bs k, 0, none⟩)) (w' := w') ?_ (hK _ w' ⟨B, by rw [← hVS]; rfl, hT.keep (fun t ht => by omega) (fun t ht => by omega)⟩)
        generalize fill (VS B) L A0 = A at e6 ⊢
        simp [execOp, go_sem, i64_w, e6]
      · obtain rfl := Option.some.inj ho
        have e18 := E18 B L (hpre ⟨4, .data⟩ (by simp) rfl)
        refine st_val HF rfl (by simp) rfl (v := .pointer (some ⟨bs k, 0, none⟩)) (w' := w') ?_ (hK _ w' ⟨B, by rw [← hVS]; rfl, hT.keep (fun t ht => by omega) (fun t ht => by omega)⟩)
        generalize fill (VS B) L A0 = A at e18 ⊢
        simp [execOp, go_sem, i64_w, e18]
      · obtain rfl := Option.some.inj ho
        have e19 := E19 B L (hpre ⟨5, .data⟩ (by simp) rfl)
        refine st_val HF rfl (by simp) rfl (v := .pointer (some ⟨bs k, 2, none⟩)) (w' := w') ?_ (hK _ w' ⟨B, by rw [← hVS]; rfl, hT.keep (fun t ht => by omega) (fun t ht => by omega)⟩)
        generalize fill (VS B) L A0 = A at e19 ⊢
        simp [execOp, go_sem, i64_w, e19]
      · obtain rfl := Option.some.inj ho
        have e20 := E20 B L (hpre ⟨6, .data⟩ (by simp) rfl)
        have c1 := hrn.out w' hS
        refine st_val HF rfl (by simp) rfl (v := .pointer (some ⟨bs ((k + 1) % l.length), 0, none⟩)) (w' := w') ?_ (hK _ w' ⟨B, by rw [← hVS]; rfl, hT.keep (fun t ht => by omega) (fun t ht => by omega)⟩)
        generalize fill (VS B) L A0 = A at e20 ⊢
        simp [execOp, go_sem, i64_w, e20, c1]
      · obtain rfl := Option.some.inj ho
        have e21 := E21 B L (hpre ⟨7, .data⟩ (by simp) rfl)
        refine st_val HF rfl (by simp) rfl (v := .pointer (some ⟨bs ((k + 1) % l.length), 0, none⟩)) (w' := w') ?_ (hK _ w' ⟨B, by rw [← hVS]; rfl, hT.keep (fun t ht => by omega) (fun t ht => by omega)⟩)
        generalize fill (VS B) L A0 = A at e21 ⊢
        simp [execOp, go_sem, i64_w, e21]
      · obtain rfl := Option.some.inj ho
        have e22 := E22 B L (hpre ⟨8, .data⟩ (by simp) rfl)
        refine st_val HF rfl (by simp) rfl (v := .pointer (some ⟨bs ((k + 1) % l.length), 0, none⟩)) (w' := w') ?_ (hK _ w' ⟨B, by rw [← hVS]; rfl, hT.keep (fun t ht => by omega) (fun t ht => by omega)⟩)
        generalize fill (VS B) L A0 = A at e22 ⊢
        simp [execOp, go_sem, i64_w, e22]
      · obtain rfl := Option.some.inj ho
        have e23 := E23 B L (hpre ⟨9, .data⟩ (by simp) rfl)
        have c1 := hnx.out w' hS
        have c2 := hny.out w' hS
        refine st_val HF rfl (by simp) rfl (v := .agg #[.int .i64 (nxt l k).f0, .int .i64 (nxt l k).f1]) (w' := w') ?_ (hK _ w' ⟨B, by rw [← hVS]; rfl, hT.keep (fun t ht => by omega) (fun t ht => by omega)⟩)
        generalize fill (VS B) L A0 = A at e23 ⊢
        simp [execOp, go_sem, i64_w, e23, c1, c2]
      · obtain rfl := Option.some.inj ho
        refine st_val HF rfl (by simp) rfl (v := .pointer (some ⟨w'.heap.size, 0, none⟩)) (w' := w'.alloc (.cells #[.int .i64 0, .int .i64 0] 37)) ?_ (hK _ _ ⟨fun t => if t = 0 then w'.heap.size else B t, by rw [← hVS]; rfl, hT.alloc (r := 0) (by decide) (fun t ht hne => by omega) (fun t ht => by omega) (fun hs => ?_) _ (hSa _ hT.sz hS _)⟩)
        · generalize fill (VS B) L A0 = A
          simp [execOp, go_sem]
        · have hq := hcl 13 _ rfl hs ⟨11, .data⟩ (by simp) rfl
          rw [hli] at hq; exact absurd hq (by simp)
      · obtain rfl := Option.some.inj ho
        refine st_val HF rfl (by simp) rfl (v := .pointer (some ⟨w'.heap.size, 0, none⟩)) (w' := w'.alloc (.cells #[.int .i64 0, .int .i64 0] 37)) ?_ (hK _ _ ⟨fun t => if t = 1 then w'.heap.size else B t, by rw [← hVS]; rfl, hT.alloc (r := 1) (by decide) (fun t ht hne => by omega) (fun t ht => by omega) (fun hs => ?_) _ (hSa _ hT.sz hS _)⟩)
        · generalize fill (VS B) L A0 = A
          simp [execOp, go_sem]
        · have hq := hcl 14 _ rfl hs ⟨12, .data⟩ (by simp) rfl
          rw [hli] at hq; exact absurd hq (by simp)
      · obtain rfl := Option.some.inj ho
        have e7 := E7 B L (hpre ⟨11, .data⟩ (by simp) rfl)
        have e17 := E17 B L (hpre ⟨3, .data⟩ (by simp) rfl)
        have hal := hpre ⟨11, .data⟩ (by simp) rfl
        obtain ⟨_, _, f0, f1, ⟨u0, k0⟩, ⟨u1, k1⟩, _⟩ := hT.box 0 (by decide) hal
        refine st_skip HF rfl (by simp) rfl (w' := (w'.setCell ⟨B 0, 0, none⟩ (.int .i64 (at_ l k).f0)).setCell ⟨B 0, 1, none⟩ (.int .i64 (at_ l k).f1)) ?_ (hK _ _ ⟨B, by rw [← hVS]; rfl, hT.store (r := 0) (by decide) (fun t ht hne => by omega) (fun t ht => by omega) hal (fun w' p v h1 h2 => hSs w' p v h1 h2)⟩)
        generalize fill (VS B) L A0 = A at e7 e17 ⊢
        simp [execOp, go_sem, k0, k1, f0, f1, e7, e17]
      · obtain rfl := Option.some.inj ho
        have e8 := E8 B L (hpre ⟨12, .data⟩ (by simp) rfl)
        have e24 := E24 B L (hpre ⟨10, .data⟩ (by simp) rfl)
        have hal := hpre ⟨12, .data⟩ (by simp) rfl
        obtain ⟨_, _, f0, f1, ⟨u0, k0⟩, ⟨u1, k1⟩, _⟩ := hT.box 1 (by decide) hal
        refine st_skip HF rfl (by simp) rfl (w' := (w'.setCell ⟨B 1, 0, none⟩ (.int .i64 (nxt l k).f0)).setCell ⟨B 1, 1, none⟩ (.int .i64 (nxt l k).f1)) ?_ (hK _ _ ⟨B, by rw [← hVS]; rfl, hT.store (r := 1) (by decide) (fun t ht hne => by omega) (fun t ht => by omega) hal (fun w' p v h1 h2 => hSs w' p v h1 h2)⟩)
        generalize fill (VS B) L A0 = A at e8 e24 ⊢
        simp [execOp, go_sem, k0, k1, f0, f1, e8, e24]
    · intro vs w' hV
      obtain ⟨B, rfl, hT⟩ := hV
      have hS := hT.s
      obtain ⟨bl0, bt0, bf0, bg0, _, _, bc0⟩ := hT.box 0 (by decide) rfl
      obtain ⟨bx0, by0⟩ := bc0 rfl
      obtain ⟨bl1, bt1, bf1, bg1, _, _, bc1⟩ := hT.box 1 (by decide) rfl
      obtain ⟨bx1, by1⟩ := bc1 rfl
      rw [← hVS, ← hA0]
      simp only [List.size_toArray, List.length_cons, List.length_nil, Nat.reduceAdd, List.replicate, fill, if_true, Act.put, List.setIfInBounds_toArray, List.set_cons_succ, List.set_cons_zero]
      clear HN hSa hSs E6 E7 E8 E14 E15 E16 E17 E18 E19 E20 E21 E22 E23 E24 hVS hA0
      have HS := Aside0.mk hS
      have hzs : w.heap.size + 4 ≤ w'.heap.size := by have := hS.size; omega
      have jpx := (hS.cell (p := ⟨w.heap.size + 1, 0, none⟩) (by dsimp only; omega)).trans hpx
      have jpy := (hS.cell (p := ⟨w.heap.size + 1, 1, none⟩) (by dsimp only; omega)).trans hpy
      have jc := (hS.cell (p := ⟨w.heap.size + 2, 0, none⟩) (by dsimp only; omega)).trans hc
      have jf := (hS.frozen (p := ⟨w.heap.size + 2, 0, none⟩) (by dsimp only; omega)).trans hf
      have jv := (hS.cell (p := ⟨w.heap.size + 3, 0, none⟩) (by dsimp only; omega)).trans hv
      have jw := (hS.frozen (p := ⟨w.heap.size + 3, 0, none⟩) (by dsimp only; omega)).trans hvf
      have HPR := Aside0.mk hpre
      have HBT := Aside0.mk hbt
      clear hS hpx hpy hc hf hv hvf bc0 bc1 hT bf0 bf1 bg0 bg1 bl0 bl1 hpre hbt
      cases hq : onPt (at_ l k) (nxt l k) p
      · have HF1 := Aside0.mk ((onPt_f (at_ l k) (nxt l k) p).trans (by rw [hq]))
        have HON := Aside0.mk (show onAt l p k = false from hq)
        have HSD := Aside0.mk (sideI_f (at_ l k) (nxt l k) p)
        have HBND := Aside0.mk (show placeV l p (k + 1) = if flipB (at_ l k) (nxt l k) p then -(placeV l p k) else placeV l p k from rfl)
        have HFL := Aside0.mk (show flipB (at_ l k) (nxt l k) p = ((decide (p.f1 < (at_ l k).f1) != decide (p.f1 < (nxt l k).f1)) && (decide ((at_ l k).f1 < (nxt l k).f1) == decide (0 < sgnP (at_ l k) (nxt l k) p))) from rfl)
        clear hq
        obtain ⟨b1, hb1⟩ : ∃ b, decide (p.f1 < (at_ l k).f1) = b := ⟨_, rfl⟩
        obtain ⟨b2, hb2⟩ : ∃ b, decide (p.f1 < (nxt l k).f1) = b := ⟨_, rfl⟩
        obtain ⟨b3, hb3⟩ : ∃ b, decide ((at_ l k).f1 < (nxt l k).f1) = b := ⟨_, rfl⟩
        obtain ⟨b4, hb4⟩ : ∃ b, decide (0 < sgnP (at_ l k) (nxt l k) p) = b := ⟨_, rfl⟩
        rw [hb1, hb2, hb3, hb4] at HFL
        have fin : ∀ (W2 : World) (v : Int), KeepsFrom W0.heap.size W W2 → Below (w.heap.size + 3) W W2 → W2.cell? ⟨w.heap.size + 3, 0, none⟩ = some (.int .i64 v) → W2.frozen? ⟨w.heap.size + 3, 0, none⟩ = false → v = placeV l p (k + 1) →
            KeepsFrom W0.heap.size W W2 ∧ Below (w.heap.size + 3) W W2 ∧ (∀ i, i < k + 1 → onAt l p i = false) ∧ (W2.cell? ⟨w.heap.size + 3, 0, none⟩ = some (.int .i64 (placeV l p (k + 1))) ∧ W2.frozen? ⟨w.heap.size + 3, 0, none⟩ = false) ∧ Below (w.heap.size + 3) W0 W2 := by
          rintro W2 v hkf hW h1 h2 rfl
          exact ⟨hkf, hW, fun i hi => by
            by_cases e : i = k
            · subst e; exact HON.out
            · exact HPR.out i (by omega), ⟨h1, h2⟩, hb.trans hW⟩
        have FIN := Aside0.mk fin
        clear fin
        cases b1 <;> cases b2 <;> cases b3 <;> cases b4 <;>
        · (try (exfalso; simp only [decide_eq_true_eq, decide_eq_false_iff_not] at hb1 hb2 hb3; omega))
          gi_wp2_with (first | ((first | refine ⟨trivial, rfl, ?_⟩ | refine ⟨rfl, ?_⟩ | skip); gi_at_call 80; refine (CallsIn.inRound r (callsIn_wide.2 (impl_PointOn.calls 1 _ _ _ _ _ _ false _ HF1.out))).mono ?_; rintro e w2 ⟨rfl, hbb⟩; have HS2 := Aside0.mk (HS.out.trans (hbb.mono HS.out.size)); have hz2 := hbb.size; have kx0 := (hbb.cell (p := ⟨B 0, 0, none⟩) bt0).trans bx0; have ky0 := (hbb.cell (p := ⟨B 0, 1, none⟩) bt0).trans by0; have kx1 := (hbb.cell (p := ⟨B 1, 0, none⟩) bt1).trans bx1; have ky1 := (hbb.cell (p := ⟨B 1, 1, none⟩) bt1).trans by1; have kpx := (hbb.cell (p := ⟨w.heap.size + 1, 0, none⟩) (by dsimp only; omega)).trans jpx; have kpy := (hbb.cell (p := ⟨w.heap.size + 1, 1, none⟩) (by dsimp only; omega)).trans jpy; have kv := (hbb.cell (p := ⟨w.heap.size + 3, 0, none⟩) (by dsimp only; omega)).trans jv; have kw := (hbb.frozen (p := ⟨w.heap.size + 3, 0, none⟩) (by dsimp only; omega)).trans jw; clear hbb bx0 by0 bx1 by1 jpx jpy jv jw jc jf) | ((first | refine ⟨trivial, rfl, ?_⟩ | refine ⟨rfl, ?_⟩ | skip); gi_at_call 60; refine (CallsIn.inRound r (callsIn_wide.2 (impl_PointSide.calls 1 _ _ _ _ _ _ _ _ _ HSD.out))).mono ?_; rintro e w3 ⟨rfl, hbb⟩; have HS3 := Aside0.mk (HS2.out.trans (hbb.mono HS2.out.size)); have hz3 := hbb.size; have lx0 := (hbb.cell (p := ⟨B 0, 0, none⟩) (by dsimp only; omega)).trans kx0; have ly0 := (hbb.cell (p := ⟨B 0, 1, none⟩) (by dsimp only; omega)).trans ky0; have lx1 := (hbb.cell (p := ⟨B 1, 0, none⟩) (by dsimp only; omega)).trans kx1; have ly1 := (hbb.cell (p := ⟨B 1, 1, none⟩) (by dsimp only; omega)).trans ky1; have lv := (hbb.cell (p := ⟨w.heap.size + 3, 0, none⟩) (by dsimp only; omega)).trans kv; have lw := (hbb.frozen (p := ⟨w.heap.size + 3, 0, none⟩) (by dsimp only; omega)).trans kw; clear hbb kx0 ky0 kx1 ky1 kv kw kpx kpy))
          (first | done | exact FIN.out _ _ (KeepsFrom.of_below HS2.out) (HS2.out.mono (by omega)) kv kw (by rw [HBND.out, HFL.out]; rfl) | exact FIN.out _ _ (KeepsFrom.of_below HS3.out) (HS3.out.mono (by omega)) lv lw (by rw [HBND.out, HFL.out]; rfl) | exact FIN.out _ _ ((KeepsFrom.of_below HS3.out).trans ((KeepsOthers.setCell _ _ _).from _)) ((show Below (w.heap.size + 3) W w3 from HS3.out.mono (by omega)).setCell (p := ⟨w.heap.size + 3, 0, none⟩) (Nat.le_refl _) _) (World.cell?_setCell_same _ _ _ lv) (by rw [World.frozen?_setCell]; exact lw) (by rw [HBND.out, HFL.out]; exact (show wrap64 (-placeV l p k) = -placeV l p k from by have := HV.out; unfold wrap64; omega)))
      · have HF1 := Aside0.mk ((onPt_f (at_ l k) (nxt l k) p).trans (by rw [hq]))
        have HON := Aside0.mk (placeR_on hk (show onAt l p k = true from hq))
        clear hq
        gi_wp2_with ((first | refine ⟨trivial, rfl, ?_⟩ | refine ⟨rfl, ?_⟩ | skip); gi_at_call 80; refine (CallsIn.inRound r (callsIn_wide.2 (impl_PointOn.calls 1 _ _ _ _ _ _ true _ HF1.out))).mono ?_; rintro e w2 ⟨rfl, hb2⟩; have HS2 := Aside0.mk (HS.out.trans (hb2.mono HS.out.size)); have kc := (hb2.cell (p := ⟨w.heap.size + 2, 0, none⟩) (by dsimp only; omega)).trans jc; have kf := (hb2.frozen (p := ⟨w.heap.size + 2, 0, none⟩) (by dsimp only; omega)).trans jf; clear hb2)
        refine ⟨(KeepsFrom.of_below HS2.out).trans ((KeepsOthers.setCell _ _ _).from _), rfl, ⟨World.cell?_setCell_same _ _ _ kc, (hb0.trans ((hb.trans (HS2.out.mono (by omega))).mono (by omega))).setCell (p := ⟨w.heap.size + 2, 0, none⟩) (by dsimp only; omega) _⟩, HON.out⟩

end Go.Proofs.Ytiieoannejlgiaa.Ring
