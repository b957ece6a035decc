/- The double area of a ring of corners. -/
import Derived.Test.YtgdhgncdpmalcaaDrawn
import Derived.Test.YtgdhgncdpmalcaaQ2
namespace Go.Proofs.Ytgdhgncdpmalcaa.Ring
open Go.RowKit Go.Shelf Go.Proofs.Ytgdhgncdpmalcaa.Q Go.Proofs.Ytgdhgncdpmalcaa.Drawn Go.Proofs.YtgdhgncdpmalcaaW.PrintWords Go.Proofs.YtgdhgncdpmalcaaW.PrintLast Go.Proofs.YtgdhgncdpmalcaaW.PrintMore
set_option linter.unusedVariables false
set_option linter.unusedSimpArgs false
attribute [local go_sem] Oper.semAt_some
def crossP (p q : Pt) : Int := wrap64 (wrap64 (p.f0 * q.f1) - wrap64 (q.f0 * p.f1))

def areaS (l : List Pt) : Nat → Int
  | 0 => 0
  | j + 1 => wrap64 (areaS l j + crossP (at_ l j) (nxt l j))
set_option maxRecDepth 100000 in
set_option maxHeartbeats 4000000 in
theorem area_calls (top : Nat) (bs : Nat → Nat) (l : List Pt) (w : World) (hR : Ring w top bs l) (htop : top ≤ w.heap.size) :
    Calls Try.prog 44 #[.agg #[.pointer (some ⟨bs 0, 0, none⟩), .int .i64 l.length]] w fun e w' => e = .returned (.int .i64 (areaS l l.length)) ∧ Below w.heap.size w w' := by
  refine (callsIn_wide (n := 0)).1 (callsIn_of_wp_marks Try.func44 rfl trivial ?_ rfl)
  simp only [Try.ntmps44, List.size_toArray, List.length_cons, List.length_nil, Nat.reduceAdd, Nat.reduceSub, Array.replicate_succ, Array.replicate_zero, List.push_toArray, List.append_toArray, List.nil_append, List.cons_append]
  have HR := Aside0.mk hR
  clear hR
  gi_wp2
  have hs : ((w.alloc (.cells #[.pointer (some ⟨bs 0, 0, none⟩), .int .i64 l.length] 54)).alloc (.cells #[.int .i64 0] 3)).heap.size = w.heap.size + 2 := by simp
  obtain ⟨W0, hW0⟩ : ∃ W0, (w.alloc (.cells #[.pointer (some ⟨bs 0, 0, none⟩), .int .i64 l.length] 54)).alloc (.cells #[.int .i64 0] 3) = W0 := ⟨_, rfl⟩
  have hc0 : W0.cell? ⟨w.heap.size + 1, 0, none⟩ = some (.int .i64 0) := by rw [← hW0]; simp [go_sem]
  have hf0 : W0.frozen? ⟨w.heap.size + 1, 0, none⟩ = false := by rw [← hW0]; simp [go_sem]
  have hb0 : Below w.heap.size w W0 := by rw [← hW0]; exact ((Below.refl _ w).alloc (Nat.le_refl _) _).alloc (by simp) _
  rw [hW0] at hs ⊢
  clear hW0
  refine range_ring w.heap.size bs l ((HR.out.mono htop).below hb0) (by omega) rfl
    (fun j W => (W.cell? ⟨w.heap.size + 1, 0, none⟩ = some (.int .i64 (areaS l j)) ∧ W.frozen? ⟨w.heap.size + 1, 0, none⟩ = false) ∧ Below w.heap.size w W)
    (fun _ _ => False)
    (OwnFrom.and (Own.from (fun s A B row hs hg hr => ⟨cell_kept hs.1 hg hr, (frozen_kept hs.1 hg hr).trans hs.2⟩) _) (ownFrom_below (Nat.le_refl _) (by omega)))
    (fun _ _ _ _ h _ _ => h.elim) ⟨⟨hc0, hf0⟩, hb0⟩ ?a1 ?assign ?body ?done ?stop
  case assign =>
    intro r k W K hK
    gi_wp2
    exact hK
  case done =>
    rintro D W hD ⟨⟨hc, hf⟩, hb⟩ hK
    gi_wp2
    refine ⟨by simp, .inl ⟨_, _, rfl, run_takeDeferred hK, ?_⟩⟩
    exact ⟨_, results_tmp rfl _ _ _, rfl, hb.trans (belowK_b (w := W0) (by omega) _ _ _ _ hD hK rfl rfl)⟩
  case stop =>
    rintro D c W hD h
    exact h.elim
  case body =>
    rintro r k W hk ⟨⟨hc, hf⟩, hb⟩ hbt
    have hRW := (HR.out.mono htop).below hb
    have hkp := hRW.pos
    have hrx := Aside0.mk (fun w' (h : Below w.heap.size W w') => (hRW.below h).x k hk)
    have hry := Aside0.mk (fun w' (h : Below w.heap.size W w') => (hRW.below h).y k hk)
    have hrn := Aside0.mk (fun w' (h : Below w.heap.size W w') => (hRW.below h).next k hk)
    have hnk : (k + 1) % l.length < l.length := Nat.mod_lt _ (by omega)
    have hnx := Aside0.mk (fun w' (h : Below w.heap.size W w') => (show w'.cell? ⟨bs ((k + 1) % l.length), 0, none⟩ = some (.int .i64 (nxt l k).f0) from (hRW.below h).x _ hnk))
    have hny := Aside0.mk (fun w' (h : Below w.heap.size W w') => (show w'.cell? ⟨bs ((k + 1) % l.length), 1, none⟩ = some (.int .i64 (nxt l k).f1) from (hRW.below h).y _ hnk))
    clear hRW
    gi_wp2
    have HF := wide_round Try.prog r
    obtain ⟨VS, hVS⟩ : ∃ VS : List (Option Tmp × Value), [(some 8, .int .i64 (areaS l k)), (some 9, .pointer (some ⟨bs k, 0, none⟩)), (some 10, .pointer (some ⟨bs k, 0, none⟩)), (some 11, .pointer (some ⟨bs k, 0, none⟩)), (some 12, .agg #[.int .i64 (at_ l k).f0, .int .i64 (at_ l k).f1]), (some 13, .agg #[.int .i64 (at_ l k).f0, .int .i64 (at_ l k).f1]), (some 14, .pointer (some ⟨bs k, 0, none⟩)), (some 15, .pointer (some ⟨bs k, 0, none⟩)), (some 16, .pointer (some ⟨bs k, 2, none⟩)), (some 17, .pointer (some ⟨bs ((k + 1) % l.length), 0, none⟩)), (some 18, .pointer (some ⟨bs ((k + 1) % l.length), 0, none⟩)), (some 19, .pointer (some ⟨bs ((k + 1) % l.length), 0, none⟩)), (some 20, .agg #[.int .i64 (nxt l k).f0, .int .i64 (nxt l k).f1]), (some 21, .agg #[.int .i64 (nxt l k).f0, .int .i64 (nxt l k).f1]), (some 22, .int .i64 (crossP (at_ l k) (nxt l k))), (some 23, .int .i64 (wrap64 (areaS l k + crossP (at_ l k) (nxt l k)))), (none, undef)] = VS := ⟨_, rfl⟩
    have HN : (VS.filterMap (·.1)).Nodup := by rw [← hVS]; exact (show List.Nodup [(8 : Tmp), (9 : Tmp), (10 : Tmp), (11 : Tmp), (12 : Tmp), (13 : Tmp), (14 : Tmp), (15 : Tmp), (16 : Tmp), (17 : Tmp), (18 : Tmp), (19 : Tmp), (20 : Tmp), (21 : Tmp), (22 : Tmp), (23 : Tmp)] by decide)
    refine act_name fun A0 hA0 => ?_
    have E3 : ∀ L : List Bool, (fill VS L A0).tmps[3]?.getD undef = .pointer (some ⟨w.heap.size + 1, 0, none⟩) := fun L => fill_old _ _ _ (by rw [← hVS]; exact (show (3 : Tmp) ∉ [(8 : Tmp), (9 : Tmp), (10 : Tmp), (11 : Tmp), (12 : Tmp), (13 : Tmp), (14 : Tmp), (15 : Tmp), (16 : Tmp), (17 : Tmp), (18 : Tmp), (19 : Tmp), (20 : Tmp), (21 : Tmp), (22 : Tmp), (23 : Tmp)] by decide)) (by rw [← hA0]; rfl)
    have E4 : ∀ L : List Bool, (fill VS L A0).tmps[4]?.getD undef = .pointer (some ⟨bs k, 0, none⟩) := fun L => fill_old _ _ _ (by rw [← hVS]; exact (show (4 : Tmp) ∉ [(8 : Tmp), (9 : Tmp), (10 : Tmp), (11 : Tmp), (12 : Tmp), (13 : Tmp), (14 : Tmp), (15 : Tmp), (16 : Tmp), (17 : Tmp), (18 : Tmp), (19 : Tmp), (20 : Tmp), (21 : Tmp), (22 : Tmp), (23 : Tmp)] by decide)) (by rw [← hA0]; rfl)
    have E8 : ∀ L : List Bool, L[0]? = some true → (fill VS L A0).tmps[8]?.getD undef = .int .i64 (areaS l k) := fun L h => fill_at HN (j := 0) (by rw [← hVS]; rfl) h (by rw [← hA0]; simp)
    have E9 : ∀ L : List Bool, L[1]? = some true → (fill VS L A0).tmps[9]?.getD undef = .pointer (some ⟨bs k, 0, none⟩) := fun L h => fill_at HN (j := 1) (by rw [← hVS]; rfl) h (by rw [← hA0]; simp)
    have E10 : ∀ L : List Bool, L[2]? = some true → (fill VS L A0).tmps[10]?.getD undef = .pointer (some ⟨bs k, 0, none⟩) := fun L h => fill_at HN (j := 2) (by rw [← hVS]; rfl) h (by rw [← hA0]; simp)
    have E11 : ∀ L : List Bool, L[3]? = some true → (fill VS L A0).tmps[11]?.getD undef = .pointer (some ⟨bs k, 0, none⟩) := fun L h => fill_at HN (j := 3) (by rw [← hVS]; rfl) h (by rw [← hA0]; simp)
    have E12 : ∀ L : List Bool, L[4]? = some true → (fill VS L A0).tmps[12]?.getD undef = .agg #[.int .i64 (at_ l k).f0, .int .i64 (at_ l k).f1] := fun L h => fill_at HN (j := 4) (by rw [← hVS]; rfl) h (by rw [← hA0]; simp)
    have E13 : ∀ L : List Bool, L[5]? = some true → (fill VS L A0).tmps[13]?.getD undef = .agg #[.int .i64 (at_ l k).f0, .int .i64 (at_ l k).f1] := fun L h => fill_at HN (j := 5) (by rw [← hVS]; rfl) h (by rw [← hA0]; simp)
    have E14 : ∀ L : List Bool, L[6]? = some true → (fill VS L A0).tmps[14]?.getD undef = .pointer (some ⟨bs k, 0, none⟩) := fun L h => fill_at HN (j := 6) (by rw [← hVS]; rfl) h (by rw [← hA0]; simp)
    have E15 : ∀ L : List Bool, L[7]? = some true → (fill VS L A0).tmps[15]?.getD undef = .pointer (some ⟨bs k, 0, none⟩) := fun L h => fill_at HN (j := 7) (by rw [← hVS]; rfl) h (by rw [← hA0]; simp)
    have E16 : ∀ L : List Bool, L[8]? = some true → (fill VS L A0).tmps[16]?.getD undef = .pointer (some ⟨bs k, 2, none⟩) := fun L h => fill_at HN (j := 8) (by rw [← hVS]; rfl) h (by rw [← hA0]; simp)
    have E17 : ∀ L : List Bool, L[9]? = some true → (fill VS L A0).tmps[17]?.getD undef = .pointer (some ⟨bs ((k + 1) % l.length), 0, none⟩) := fun L h => fill_at HN (j := 9) (by rw [← hVS]; rfl) h (by rw [← hA0]; simp)
    have E18 : ∀ L : List Bool, L[10]? = some true → (fill VS L A0).tmps[18]?.getD undef = .pointer (some ⟨bs ((k + 1) % l.length), 0, none⟩) := fun L h => fill_at HN (j := 10) (by rw [← hVS]; rfl) h (by rw [← hA0]; simp)
    have E19 : ∀ L : List Bool, L[11]? = some true → (fill VS L A0).tmps[19]?.getD undef = .pointer (some ⟨bs ((k + 1) % l.length), 0, none⟩) := fun L h => fill_at HN (j := 11) (by rw [← hVS]; rfl) h (by rw [← hA0]; simp)
    have E20 : ∀ L : List Bool, L[12]? = some true → (fill VS L A0).tmps[20]?.getD undef = .agg #[.int .i64 (nxt l k).f0, .int .i64 (nxt l k).f1] := fun L h => fill_at HN (j := 12) (by rw [← hVS]; rfl) h (by rw [← hA0]; simp)
    have E21 : ∀ L : List Bool, L[13]? = some true → (fill VS L A0).tmps[21]?.getD undef = .agg #[.int .i64 (nxt l k).f0, .int .i64 (nxt l k).f1] := fun L h => fill_at HN (j := 13) (by rw [← hVS]; rfl) h (by rw [← hA0]; simp)
    have E22 : ∀ L : List Bool, L[14]? = some true → (fill VS L A0).tmps[22]?.getD undef = .int .i64 (crossP (at_ l k) (nxt l k)) := fun L h => fill_at HN (j := 14) (by rw [← hVS]; rfl) h (by rw [← hA0]; simp)
    have E23 : ∀ L : List Bool, L[15]? = some true → (fill VS L A0).tmps[23]?.getD undef = .int .i64 (wrap64 (areaS l k + crossP (at_ l k) (nxt l k))) := fun L h => fill_at HN (j := 15) (by rw [← hVS]; rfl) h (by rw [← hA0]; simp)
    refine drawn_last (by kernel_rfl) (early_spec (by kernel_rfl)) 16 rfl (waits_spec (by kernel_rfl)) VS (by rw [← hVS]; rfl) HN (fun w' => (w'.cell? ⟨w.heap.size + 1, 0, none⟩ = some (.int .i64 (areaS l k)) ∧ w'.frozen? ⟨w.heap.size + 1, 0, none⟩ = false) ∧ Below w.heap.size W w' ∧ KeepsFrom W0.heap.size W w' ∧ w.heap.size + 2 ≤ w'.heap.size) (fun w' => (w'.cell? ⟨w.heap.size + 1, 0, none⟩ = some (.int .i64 (areaS l (k + 1))) ∧ w'.frozen? ⟨w.heap.size + 1, 0, none⟩ = false) ∧ Below w.heap.size W w' ∧ KeepsFrom W0.heap.size W w' ∧ w.heap.size + 2 ≤ w'.heap.size) (⟨⟨hc, hf⟩, (Below.refl _ _).drew, (KeepsOthers.drew _).from _, by have := hbt.size; simp; omega⟩) ?_ ?_ ?_
    · intro i o v L w' hi ho hv hpre hS K hK
      have hii : i = 0 ∨ i = 1 ∨ i = 2 ∨ i = 3 ∨ i = 4 ∨ i = 5 ∨ i = 6 ∨ i = 7 ∨ i = 8 ∨ i = 9 ∨ i = 10 ∨ i = 11 ∨ i = 12 ∨ i = 13 ∨ i = 14 ∨ i = 15 := by omega
      rcases hii with rfl | rfl | rfl | rfl | rfl | rfl | rfl | rfl | rfl | rfl | rfl | rfl | rfl | rfl | rfl | rfl
      · obtain rfl := Option.some.inj ho
        obtain rfl : .int .i64 (areaS l k) = v := (Prod.mk.inj (Option.some.inj (show (some (some 8, .int .i64 (areaS l k)) : Option (Option Tmp × Value)) = _ from by rw [← hVS] at hv; exact hv))).2
        have e3 := E3 L
        have c1 := hS.1.1
        refine st_val HF rfl (by simp) rfl (w' := w') ?_ (hK w' hS)
        generalize fill VS L A0 = A at e3 ⊢
        simp [execOp, go_sem, i64_w, e3, c1]
      · obtain rfl := Option.some.inj ho
        obtain rfl : .pointer (some ⟨bs k, 0, none⟩) = v := (Prod.mk.inj (Option.some.inj (show (some (some 9, .pointer (some ⟨bs k, 0, none⟩)) : Option (Option Tmp × Value)) = _ from by rw [← hVS] at hv; exact hv))).2
        have e4 := E4 L
        refine st_val HF rfl (by simp) rfl (w' := w') ?_ (hK w' hS)
        generalize fill VS L A0 = A at e4 ⊢
        simp [execOp, go_sem, i64_w, e4]
      · obtain rfl := Option.some.inj ho
        obtain rfl : .pointer (some ⟨bs k, 0, none⟩) = v := (Prod.mk.inj (Option.some.inj (show (some (some 10, .pointer (some ⟨bs k, 0, none⟩)) : Option (Option Tmp × Value)) = _ from by rw [← hVS] at hv; exact hv))).2
        have e9 := E9 L (hpre ⟨1, .data⟩ (by simp) rfl)
        refine st_val HF rfl (by simp) rfl (w' := w') ?_ (hK w' hS)
        generalize fill VS L A0 = A at e9 ⊢
        simp [execOp, go_sem, i64_w, e9]
      · obtain rfl := Option.some.inj ho
        obtain rfl : .pointer (some ⟨bs k, 0, none⟩) = v := (Prod.mk.inj (Option.some.inj (show (some (some 11, .pointer (some ⟨bs k, 0, none⟩)) : Option (Option Tmp × Value)) = _ from by rw [← hVS] at hv; exact hv))).2
        have e10 := E10 L (hpre ⟨2, .data⟩ (by simp) rfl)
        refine st_val HF rfl (by simp) rfl (w' := w') ?_ (hK w' hS)
        generalize fill VS L A0 = A at e10 ⊢
        simp [execOp, go_sem, i64_w, e10]
      · obtain rfl := Option.some.inj ho
        obtain rfl : .agg #[.int .i64 (at_ l k).f0, .int .i64 (at_ l k).f1] = v := (Prod.mk.inj (Option.some.inj (show (some (some 12, .agg #[.int .i64 (at_ l k).f0, .int .i64 (at_ l k).f1]) : Option (Option Tmp × Value)) = _ from by rw [← hVS] at hv; exact hv))).2
        have e11 := E11 L (hpre ⟨3, .data⟩ (by simp) rfl)
        have c1 := hrx.out w' hS.2.1
        have c2 := hry.out w' hS.2.1
        refine st_val HF rfl (by simp) rfl (w' := w') ?_ (hK w' hS)
        generalize fill VS L A0 = A at e11 ⊢
        simp [execOp, go_sem, i64_w, e11, c1, c2]
      · obtain rfl := Option.some.inj ho
        obtain rfl : .agg #[.int .i64 (at_ l k).f0, .int .i64 (at_ l k).f1] = v := (Prod.mk.inj (Option.some.inj (show (some (some 13, .agg #[.int .i64 (at_ l k).f0, .int .i64 (at_ l k).f1]) : Option (Option Tmp × Value)) = _ from by rw [← hVS] at hv; exact hv))).2
        have e12 := E12 L (hpre ⟨4, .data⟩ (by simp) rfl)
        refine st_call HF rfl (by simp) rfl (w := w') (f := 53) (args := #[.agg #[.int .i64 (at_ l k).f0, .int .i64 (at_ l k).f1]]) (v := .agg #[.int .i64 (at_ l k).f0, .int .i64 (at_ l k).f1]) ?_ ?_
        · generalize fill VS L A0 = A at e12 ⊢
          simp [execOp, resolve, go_sem, e12]
        · refine (impl_pairOf.calls _ _ (at_ l k).f0 (at_ l k).f1 w' rfl).mono ?_; rintro e w2 ⟨rfl, hb2⟩; exact ⟨rfl, hK w2 ⟨⟨(hb2.cell (p := ⟨w.heap.size + 1, 0, none⟩) (by have := hS.2.2.2; dsimp only; omega)).trans hS.1.1, (hb2.frozen (p := ⟨w.heap.size + 1, 0, none⟩) (by have := hS.2.2.2; dsimp only; omega)).trans hS.1.2⟩, hS.2.1.trans (hb2.mono (by have := hS.2.2.2; omega)), hS.2.2.1.trans (KeepsFrom.of_below hb2), Nat.le_trans hS.2.2.2 hb2.size⟩⟩
      · obtain rfl := Option.some.inj ho
        obtain rfl : .pointer (some ⟨bs k, 0, none⟩) = v := (Prod.mk.inj (Option.some.inj (show (some (some 14, .pointer (some ⟨bs k, 0, none⟩)) : Option (Option Tmp × Value)) = _ from by rw [← hVS] at hv; exact hv))).2
        have e4 := E4 L
        refine st_val HF rfl (by simp) rfl (w' := w') ?_ (hK w' hS)
        generalize fill VS L A0 = A at e4 ⊢
        simp [execOp, go_sem, i64_w, e4]
      · obtain rfl := Option.some.inj ho
        obtain rfl : .pointer (some ⟨bs k, 0, none⟩) = v := (Prod.mk.inj (Option.some.inj (show (some (some 15, .pointer (some ⟨bs k, 0, none⟩)) : Option (Option Tmp × Value)) = _ from by rw [← hVS] at hv; exact hv))).2
        have e14 := E14 L (hpre ⟨6, .data⟩ (by simp) rfl)
        refine st_val HF rfl (by simp) rfl (w' := w') ?_ (hK w' hS)
        generalize fill VS L A0 = A at e14 ⊢
        simp [execOp, go_sem, i64_w, e14]
      · obtain rfl := Option.some.inj ho
        obtain rfl : .pointer (some ⟨bs k, 2, none⟩) = v := (Prod.mk.inj (Option.some.inj (show (some (some 16, .pointer (some ⟨bs k, 2, none⟩)) : Option (Option Tmp × Value)) = _ from by rw [← hVS] at hv; exact hv))).2
        have e15 := E15 L (hpre ⟨7, .data⟩ (by simp) rfl)
        refine st_val HF rfl (by simp) rfl (w' := w') ?_ (hK w' hS)
        generalize fill VS L A0 = A at e15 ⊢
        simp [execOp, go_sem, i64_w, e15]
      · obtain rfl := Option.some.inj ho
        obtain rfl : .pointer (some ⟨bs ((k + 1) % l.length), 0, none⟩) = v := (Prod.mk.inj (Option.some.inj (show (some (some 17, .pointer (some ⟨bs ((k + 1) % l.length), 0, none⟩)) : Option (Option Tmp × Value)) = _ from by rw [← hVS] at hv; exact hv))).2
        have e16 := E16 L (hpre ⟨8, .data⟩ (by simp) rfl)
        have c1 := hrn.out w' hS.2.1
        refine st_val HF rfl (by simp) rfl (w' := w') ?_ (hK w' hS)
        generalize fill VS L A0 = A at e16 ⊢
        simp [execOp, go_sem, i64_w, e16, c1]
      · obtain rfl := Option.some.inj ho
        obtain rfl : .pointer (some ⟨bs ((k + 1) % l.length), 0, none⟩) = v := (Prod.mk.inj (Option.some.inj (show (some (some 18, .pointer (some ⟨bs ((k + 1) % l.length), 0, none⟩)) : Option (Option Tmp × Value)) = _ from by rw [← hVS] at hv; exact hv))).2
        have e17 := E17 L (hpre ⟨9, .data⟩ (by simp) rfl)
        refine st_val HF rfl (by simp) rfl (w' := w') ?_ (hK w' hS)
        generalize fill VS L A0 = A at e17 ⊢
        simp [execOp, go_sem, i64_w, e17]
      · obtain rfl := Option.some.inj ho
        obtain rfl : .pointer (some ⟨bs ((k + 1) % l.length), 0, none⟩) = v := (Prod.mk.inj (Option.some.inj (show (some (some 19, .pointer (some ⟨bs ((k + 1) % l.length), 0, none⟩)) : Option (Option Tmp × Value)) = _ from by rw [← hVS] at hv; exact hv))).2
        have e18 := E18 L (hpre ⟨10, .data⟩ (by simp) rfl)
        refine st_val HF rfl (by simp) rfl (w' := w') ?_ (hK w' hS)
        generalize fill VS L A0 = A at e18 ⊢
        simp [execOp, go_sem, i64_w, e18]
      · obtain rfl := Option.some.inj ho
        obtain rfl : .agg #[.int .i64 (nxt l k).f0, .int .i64 (nxt l k).f1] = v := (Prod.mk.inj (Option.some.inj (show (some (some 20, .agg #[.int .i64 (nxt l k).f0, .int .i64 (nxt l k).f1]) : Option (Option Tmp × Value)) = _ from by rw [← hVS] at hv; exact hv))).2
        have e19 := E19 L (hpre ⟨11, .data⟩ (by simp) rfl)
        have c1 := hnx.out w' hS.2.1
        have c2 := hny.out w' hS.2.1
        refine st_val HF rfl (by simp) rfl (w' := w') ?_ (hK w' hS)
        generalize fill VS L A0 = A at e19 ⊢
        simp [execOp, go_sem, i64_w, e19, c1, c2]
      · obtain rfl := Option.some.inj ho
        obtain rfl : .agg #[.int .i64 (nxt l k).f0, .int .i64 (nxt l k).f1] = v := (Prod.mk.inj (Option.some.inj (show (some (some 21, .agg #[.int .i64 (nxt l k).f0, .int .i64 (nxt l k).f1]) : Option (Option Tmp × Value)) = _ from by rw [← hVS] at hv; exact hv))).2
        have e20 := E20 L (hpre ⟨12, .data⟩ (by simp) rfl)
        refine st_call HF rfl (by simp) rfl (w := w') (f := 53) (args := #[.agg #[.int .i64 (nxt l k).f0, .int .i64 (nxt l k).f1]]) (v := .agg #[.int .i64 (nxt l k).f0, .int .i64 (nxt l k).f1]) ?_ ?_
        · generalize fill VS L A0 = A at e20 ⊢
          simp [execOp, resolve, go_sem, e20]
        · refine (impl_pairOf.calls _ _ (nxt l k).f0 (nxt l k).f1 w' rfl).mono ?_; rintro e w2 ⟨rfl, hb2⟩; exact ⟨rfl, hK w2 ⟨⟨(hb2.cell (p := ⟨w.heap.size + 1, 0, none⟩) (by have := hS.2.2.2; dsimp only; omega)).trans hS.1.1, (hb2.frozen (p := ⟨w.heap.size + 1, 0, none⟩) (by have := hS.2.2.2; dsimp only; omega)).trans hS.1.2⟩, hS.2.1.trans (hb2.mono (by have := hS.2.2.2; omega)), hS.2.2.1.trans (KeepsFrom.of_below hb2), Nat.le_trans hS.2.2.2 hb2.size⟩⟩
      · obtain rfl := Option.some.inj ho
        obtain rfl : .int .i64 (crossP (at_ l k) (nxt l k)) = v := (Prod.mk.inj (Option.some.inj (show (some (some 22, .int .i64 (crossP (at_ l k) (nxt l k))) : Option (Option Tmp × Value)) = _ from by rw [← hVS] at hv; exact hv))).2
        have e13 := E13 L (hpre ⟨5, .data⟩ (by simp) rfl)
        have e21 := E21 L (hpre ⟨13, .data⟩ (by simp) rfl)
        refine st_call HF rfl (by simp) rfl (w := w') (f := 74) (args := #[.agg #[.int .i64 (at_ l k).f0, .int .i64 (at_ l k).f1], .agg #[.int .i64 (nxt l k).f0, .int .i64 (nxt l k).f1]]) (v := .int .i64 (crossP (at_ l k) (nxt l k))) ?_ ?_
        · generalize fill VS L A0 = A at e13 e21 ⊢
          simp [execOp, resolve, go_sem, e13, e21]
        · refine (impl_pair_cross.calls _ _ _ _ (crossP (at_ l k) (nxt l k)) w' rfl).mono ?_; rintro e w2 ⟨rfl, hb2⟩; exact ⟨rfl, hK w2 ⟨⟨(hb2.cell (p := ⟨w.heap.size + 1, 0, none⟩) (by have := hS.2.2.2; dsimp only; omega)).trans hS.1.1, (hb2.frozen (p := ⟨w.heap.size + 1, 0, none⟩) (by have := hS.2.2.2; dsimp only; omega)).trans hS.1.2⟩, hS.2.1.trans (hb2.mono (by have := hS.2.2.2; omega)), hS.2.2.1.trans (KeepsFrom.of_below hb2), Nat.le_trans hS.2.2.2 hb2.size⟩⟩
      · obtain rfl := Option.some.inj ho
        obtain rfl : .int .i64 (wrap64 (areaS l k + crossP (at_ l k) (nxt l k))) = v := (Prod.mk.inj (Option.some.inj (show (some (some 23, .int .i64 (wrap64 (areaS l k + crossP (at_ l k) (nxt l k)))) : Option (Option Tmp × Value)) = _ from by rw [← hVS] at hv; exact hv))).2
        have e8 := E8 L (hpre ⟨0, .data⟩ (by simp) rfl)
        have e22 := E22 L (hpre ⟨14, .data⟩ (by simp) rfl)
        refine st_val HF rfl (by simp) rfl (w' := w') ?_ (hK w' hS)
        generalize fill VS L A0 = A at e8 e22 ⊢
        simp [execOp, go_sem, i64_w, e8, e22]
    · intro o v L w' ho hv hall hS K hK
      obtain rfl := Option.some.inj ho
      obtain rfl : undef = v := (Prod.mk.inj (Option.some.inj (show (some (none, undef) : Option (Option Tmp × Value)) = _ from by rw [← hVS] at hv; exact hv))).2
      have e3 := E3 L
      have e23 := E23 L (hall 15 (by decide))
      have c1 := hS.1.1
      have c2 := hS.1.2
      refine st_skip HF rfl (by simp) rfl (w' := w'.setCell ⟨w.heap.size + 1, 0, none⟩ (.int .i64 (areaS l (k + 1)))) ?_ (hK _ ⟨⟨World.cell?_setCell_same _ _ _ c1, by rw [World.frozen?_setCell]; exact c2⟩, hS.2.1.setCell (p := ⟨w.heap.size + 1, 0, none⟩) (by dsimp only; omega) _, hS.2.2.1.trans ((KeepsOthers.setCell _ _ _).from _), by simpa using hS.2.2.2⟩)
      generalize fill VS L A0 = A at e3 e23 ⊢
      simp [execOp, go_sem, e3, e23, c1, c2]
      rfl
    · intro w' hS'
      exact ⟨hS'.2.2.1, hS'.2.1, hS'.1, hb.trans hS'.2.1⟩

end Go.Proofs.Ytgdhgncdpmalcaa.Ring
