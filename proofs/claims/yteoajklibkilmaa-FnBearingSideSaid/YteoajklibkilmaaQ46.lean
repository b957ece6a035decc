/- Functions of the translation as plain Lean functions, each with a proof that the Go code comes to its answers; written by a program of the prover's (a changed copy of the kit's printer). -/
import Derived.Test.YteoajklibkilmaaQ0
import Derived.Test.YteoajklibkilmaaQ14
import Derived.Test.YteoajklibkilmaaQ39
import Derived.Test.YteoajklibkilmaaQ42
import Derived.Test.YteoajklibkilmaaQ44
import Derived.Test.YteoajklibkilmaaQ45
namespace Go.Proofs.Yteoajklibkilmaa.Q
open Go.RowKit Go.Proofs.YteoajklibkilmaaW.PrintWords Go.Proofs.YteoajklibkilmaaW.PrintLast Go.Proofs.YteoajklibkilmaaW.PrintMore
attribute [local go_sem] max2_int min2_int max_two min_two max_three min_three max_four min_four   -- for this text's walks alone
set_option linter.unusedVariables false
set_option linter.unusedSimpArgs false

/-! ### laws_FnBearingSide: function 13 -/
def laws_FnBearingSide.j0 : Nat → Bool → Bool → Bool → Int → Int → Int → Int → Option (Bool)
  | 0, _, _, _, _, _, _, _ => none
  | k + 1, x5, x6, x33, x630000, x630001, x631000, x631001 => if x33 = true then (some (x5 == x6)) else ((impl_BearingQuarter.f k x630000 x630001).bind fun bt633 => ((impl_BearingQuarter.f k x631000 x631001).bind fun bt635 => (if bt635.1 > (wrap64 (bt633.1 + 1)) then (if bt633.2 = true then (some bt635.2) else (some false)) else (if x630000 = (wrap64 (-x631000)) then (if x630001 = (wrap64 (-x631001)) then (if bt633.2 = true then (some bt635.2) else (some false)) else ((impl_PointSide.f k 0 0 x631000 x631001 x630000 x630001).bind fun bt637 => (if bt637.2 = true then (some (bt637.1 == 1)) else (some true)))) else ((impl_PointSide.f k 0 0 x631000 x631001 x630000 x630001).bind fun bt639 => (if bt639.2 = true then (some (bt639.1 == 1)) else (some true)))))))
def laws_FnBearingSide.f (k : Nat) (l0 : List Int) : Option (Bool) := if (l0.length : Int) > 1048576 then (some true) else ((spec_DrawBearingLess.f k l0).bind fun bt625 => ((impl_BearingLess.f k bt625.1 bt625.2.1 bt625.2.2.1 bt625.2.2.2).bind fun t631 => ((spec_BearingLess.f k bt625.1 bt625.2.1 bt625.2.2.1 bt625.2.2.2).bind fun t632 => (if (t631 != t632) = true then (laws_FnBearingSide.j0 k t631 t632 true bt625.1 bt625.2.1 bt625.2.2.1 bt625.2.2.2) else (laws_FnBearingSide.j0 k t631 t632 (!t631) bt625.1 bt625.2.1 bt625.2.2.1 bt625.2.2.2)))))
theorem laws_FnBearingSide.mono_l : ∀ k, (∀ y0 y1 y2 y3 y4 y5 y6, LeO (laws_FnBearingSide.j0 k y0 y1 y2 y3 y4 y5 y6) (laws_FnBearingSide.j0 (k + 1) y0 y1 y2 y3 y4 y5 y6))
  | 0 => fun _ _ _ _ _ _ _ r h => by simp [laws_FnBearingSide.j0] at h
  | k + 1 => by
    have ih0 := laws_FnBearingSide.mono_l k
    · intro y0 y1 y2 y3 y4 y5 y6
      unfold laws_FnBearingSide.j0
      repeat' first
      | (with_reducible exact ih0 _ _ _ _ _ _ _)
      | (with_reducible exact impl_BearingLess.mono _ _ _ _ _)
      | (with_reducible exact impl_BearingQuarter.mono _ _ _)
      | (with_reducible exact impl_PointSide.mono _ _ _ _ _ _ _)
      | (with_reducible exact spec_BearingLess.mono _ _ _ _ _)
      | (with_reducible exact spec_DrawBearingLess.mono _ _)
      | (with_reducible exact LeO.refl _)
      | (with_reducible exact LeO.none _)
      | (with_reducible refine LeO.ite ?_ ?_)
      | (with_reducible refine LeO.bind ?_ (fun _ => ?_))
      | exact ih0 _ _ _ _ _ _ _
      | exact impl_BearingLess.mono _ _ _ _ _
      | exact impl_BearingQuarter.mono _ _ _
      | exact impl_PointSide.mono _ _ _ _ _ _ _
      | exact spec_BearingLess.mono _ _ _ _ _
      | exact spec_DrawBearingLess.mono _ _
      | exact LeO.none _
      | refine LeO.ite ?_ ?_
      | refine LeO.bind ?_ (fun _ => ?_)
theorem laws_FnBearingSide.mono : ∀ a0 k, LeO (laws_FnBearingSide.f k a0) (laws_FnBearingSide.f (k + 1) a0) := by
  intro a0 k
  have ih0 := laws_FnBearingSide.mono_l k
  unfold laws_FnBearingSide.f
  repeat' first
      | (with_reducible exact ih0 _ _ _ _ _ _ _)
      | (with_reducible exact impl_BearingLess.mono _ _ _ _ _)
      | (with_reducible exact impl_BearingQuarter.mono _ _ _)
      | (with_reducible exact impl_PointSide.mono _ _ _ _ _ _ _)
      | (with_reducible exact spec_BearingLess.mono _ _ _ _ _)
      | (with_reducible exact spec_DrawBearingLess.mono _ _)
      | (with_reducible exact LeO.refl _)
      | (with_reducible exact LeO.none _)
      | (with_reducible refine LeO.ite ?_ ?_)
      | (with_reducible refine LeO.bind ?_ (fun _ => ?_))
      | exact ih0 _ _ _ _ _ _ _
      | exact impl_BearingLess.mono _ _ _ _ _
      | exact impl_BearingQuarter.mono _ _ _
      | exact impl_PointSide.mono _ _ _ _ _ _ _
      | exact spec_BearingLess.mono _ _ _ _ _
      | exact spec_DrawBearingLess.mono _ _
      | exact LeO.none _
      | refine LeO.ite ?_ ?_
      | refine LeO.bind ?_ (fun _ => ?_)
set_option maxHeartbeats 8000000 in
set_option maxRecDepth 100000 in
theorem laws_FnBearingSide.calls (k : Nat) (A0 : Option Addr) (c0 : Nat) (l0 : List Int) (r : Bool) (w : World) (hr0 : Kd.C (Kd.int .u8) w A0 l0.length l0) (hc0 : l0.length ≤ c0) (h : laws_FnBearingSide.f k l0 = some r) (hT0 : r = true) :
    Calls Try.prog 13 #[.slice A0 l0.length c0] w fun e w' => e = .returned (.bool r) ∧ Below w.heap.size w w' := by
  have hu24 := Try.underlying24
  have hT := Aside0.mk hT0
  clear hT0
  have HR0 := Aside0.mk hr0
  have HC0 := Aside0.mk hc0
  clear hr0 hc0
  have HB := Aside0.mk (Below.refl w.heap.size w)
  have H : (if (l0.length : Int) > 1048576 then (some true) else ((spec_DrawBearingLess.f k l0).bind fun bt625 => ((impl_BearingLess.f k bt625.1 bt625.2.1 bt625.2.2.1 bt625.2.2.2).bind fun t631 => ((spec_BearingLess.f k bt625.1 bt625.2.1 bt625.2.2.1 bt625.2.2.2).bind fun t632 => (if (t631 != t632) = true then (laws_FnBearingSide.j0 k t631 t632 true bt625.1 bt625.2.1 bt625.2.2.1 bt625.2.2.2) else (laws_FnBearingSide.j0 k t631 t632 (!t631) bt625.1 bt625.2.1 bt625.2.2.1 bt625.2.2.2)))))) = some r := h
  clear h
  by_cases c2 : (l0.length : Int) > 1048576
  · rw [if_pos c2] at H
    have c2b0 : decide (1048576 < (l0.length : Int)) = true := decide_eq_true c2
    have c2b1 : decide (1048576 < l0.length) = true := decide_eq_true (by omega)
    clear c2
    obtain rfl := Option.some.inj H
    go_enter Try.func13, Try.ntmps13
    go_wp2
    go_ret
    exact ⟨by first | rfl | (simp [errW_none, errW_some] <;> rfl) | (simp [*, errW_none, errW_some] <;> rfl), by repeat (first | (with_reducible first | exact HB.out | apply below_alloc | apply pw_below_drewN | apply below_drew1) | exact HB.out)⟩
  · rw [if_neg c2] at H
    have c2b0 : decide (1048576 < (l0.length : Int)) = false := decide_eq_false c2
    have c2b1 : decide (1048576 < l0.length) = false := decide_eq_false (by omega)
    clear c2
    replace H := Option.bind_eq_some_iff.mp H
    obtain ⟨⟨t625, t626, t627, t628⟩, A30, H⟩ := H
    replace H : ((impl_BearingLess.f k t625 t626 t627 t628).bind fun t631 => ((spec_BearingLess.f k t625 t626 t627 t628).bind fun t632 => (if (t631 != t632) = true then (laws_FnBearingSide.j0 k t631 t632 true t625 t626 t627 t628) else (laws_FnBearingSide.j0 k t631 t632 (!t631) t625 t626 t627 t628)))) = some r := H
    have A3 := Aside0.mk A30
    clear A30
    replace H := Option.bind_eq_some_iff.mp H
    obtain ⟨t631, A40, H⟩ := H
    replace H : ((spec_BearingLess.f k t625 t626 t627 t628).bind fun t632 => (if (t631 != t632) = true then (laws_FnBearingSide.j0 k t631 t632 true t625 t626 t627 t628) else (laws_FnBearingSide.j0 k t631 t632 (!t631) t625 t626 t627 t628))) = some r := H
    have A4 := Aside0.mk A40
    clear A40
    replace H := Option.bind_eq_some_iff.mp H
    obtain ⟨t632, A50, H⟩ := H
    replace H : (if (t631 != t632) = true then (laws_FnBearingSide.j0 k t631 t632 true t625 t626 t627 t628) else (laws_FnBearingSide.j0 k t631 t632 (!t631) t625 t626 t627 t628)) = some r := H
    have A5 := Aside0.mk A50
    clear A50
    have HC6 := Aside0.mk H
    clear H
    go_enter Try.func13, Try.ntmps13
    go_upto_region 6 with (first | ((with_reducible refine gate_callee (f := 33) rfl ?_); refine goesL_ (some 18) rfl rfl Try.func33 (by kernel_rfl) rfl #[.slice A0 l0.length c0] rfl (by (try simp only [List.map_toArray, List.map_cons, List.map_nil]); first | done | rfl | (simp only [List.length_drop, List.length_take]; rfl)) ?_; (with_reducible refine (spec_DrawBearingLess.calls k _ _ l0 t625 t626 t627 t628 _ ?side1 ?side2 A3.out).mono ?_); (case side1 => repeat (first | exact HR0.out | (with_reducible refine Kd.C_alloc ?_ _) | (with_reducible refine Kd.C_drewN ?_ _) | (with_reducible refine Kd.C_drew ?_))); (case side2 => exact HC0.out); rintro e w7 ⟨rfl, hb⟩; refine ⟨_, rfl, ?_⟩; have n0_ := Aside0.mk (below_step (by repeat (first | (with_reducible first | exact HB.out | apply below_alloc | apply pw_below_drewN | apply below_drew1) | exact HB.out)) hb); clear HB; have HB := n0_; clear n0_; (try clear hb); (try clear hb2); (try clear hk); (try clear hi)) | ((with_reducible refine gate_dst (N := 3) rfl ?_); refine box_event ?hg (N := 3) ?hd (cs := #[.int .i64 0, .int .i64 0]) (t := 24) ?hr ?_; (case hd => rfl); (case hg => rfl); (case hr => first | (go_simp; done) | (go_simp; rfl)); intro gb629 hg w8 hbox hb; have n0_ := Aside0.mk (below_step (by repeat (first | (with_reducible first | exact HB.out | apply below_alloc | apply pw_below_drewN | apply below_drew1) | exact HB.out)) hb); have n1_ := Aside0.mk (hbox); have n2_ := Aside0.mk ((by rw [hg]; exact (below_size (by repeat (first | (with_reducible first | exact HB.out | apply below_alloc | apply pw_below_drewN | apply below_drew1) | exact HB.out))) : w.heap.size ≤ gb629)); have n3_ := Aside0.mk ((by rw [hg]; exact (below_size (by repeat (first | (with_reducible first | exact HB.out | apply below_alloc | apply pw_below_drewN | apply below_drew1) | exact HB.out))) : w.heap.size ≤ gb629)); clear HB; have HB := n0_; have BK629 := n1_; have GW629 := n2_; have GE629 := n3_; clear n0_ n1_ n2_ n3_; clear hb hbox hg) | ((with_reducible refine gate_dst (N := 4) rfl ?_); refine box_event ?hg (N := 4) ?hd (cs := #[.int .i64 0, .int .i64 0]) (t := 24) ?hr ?_; (case hd => rfl); (case hg => rfl); (case hr => first | (go_simp; done) | (go_simp; rfl)); intro gb630 hg w9 hbox hb; have n0_ := Aside0.mk (blk_below (g := gb629) (o := .cells #[.int .i64 0, .int .i64 0] 24 (0, 0)) (by (with_reducible repeat (first | refine blk_drewN ?_ _ | refine blk_drew ?_ | refine blk_alloc ?_ _)); exact BK629.out) hb); have n1_ := Aside0.mk (below_step (by repeat (first | (with_reducible first | exact HB.out | apply below_alloc | apply pw_below_drewN | apply below_drew1 | refine below_set ?_ GE629.out) | exact HB.out)) hb); have n2_ := Aside0.mk (hbox); have n3_ := Aside0.mk ((by rw [hg]; exact (below_size (by repeat (first | (with_reducible first | exact HB.out | apply below_alloc | apply pw_below_drewN | apply below_drew1 | refine below_set ?_ GE629.out) | exact HB.out))) : w.heap.size ≤ gb630)); have n4_ := Aside0.mk ((by rw [hg]; exact (below_size (by repeat (first | (with_reducible first | exact HB.out | apply below_alloc | apply pw_below_drewN | apply below_drew1 | refine below_set ?_ GE629.out) | exact HB.out))) : w.heap.size ≤ gb630)); have n5_ := Aside0.mk ((by rw [hg]; exact Nat.ne_of_lt (blk_lt (g := gb629) (o := .cells #[.int .i64 0, .int .i64 0] 24 (0, 0)) (by (with_reducible repeat (first | refine blk_drewN ?_ _ | refine blk_drew ?_ | refine blk_alloc ?_ _)); exact BK629.out)) : gb629 ≠ gb630)); have n6_ := Aside0.mk ((by rw [hg]; exact Nat.ne_of_gt (blk_lt (g := gb629) (o := .cells #[.int .i64 0, .int .i64 0] 24 (0, 0)) (by (with_reducible repeat (first | refine blk_drewN ?_ _ | refine blk_drew ?_ | refine blk_alloc ?_ _)); exact BK629.out)) : gb630 ≠ gb629)); clear BK629; clear HB; have BK629 := n0_; have HB := n1_; have BK630 := n2_; have GW630 := n3_; have GE630 := n4_; have NB629_630 := n5_; have NB630_629 := n6_; clear n0_ n1_ n2_ n3_ n4_ n5_ n6_; clear hb hbox hg; have hnb10 := NB629_630.out; have hnc10 := NB630_629.out; have hcz11_0 : w9.cell? ⟨gb629, 0, none⟩ = some (.int .i64 0) := (blk_cell BK629.out 0).trans rfl; have hcz11_1 : w9.cell? ⟨gb629, 1, none⟩ = some (.int .i64 0) := (blk_cell BK629.out 1).trans rfl; have hfz11_0 := blk_frozen BK629.out 0; have hfz11_1 := blk_frozen BK629.out 1; have hcz12_0 : w9.cell? ⟨gb630, 0, none⟩ = some (.int .i64 0) := (blk_cell BK630.out 0).trans rfl; have hcz12_1 : w9.cell? ⟨gb630, 1, none⟩ = some (.int .i64 0) := (blk_cell BK630.out 1).trans rfl; have hfz12_0 := blk_frozen BK630.out 0; have hfz12_1 := blk_frozen BK630.out 1) | ((with_reducible refine gate_callee (f := 34) rfl ?_); refine goesL_ (some 23) rfl rfl Try.func34 (by kernel_rfl) rfl #[.agg #[.int .i64 t625, .int .i64 t626], .agg #[.int .i64 t627, .int .i64 t628]] rfl (by (try simp only [List.map_toArray, List.map_cons, List.map_nil]); first | done | rfl | (simp only [List.length_drop, List.length_take]; rfl)) ?_; (with_reducible refine (impl_BearingLess.calls k t625 t626 t627 t628 t631 _ A4.out).mono ?_); rintro e w13 ⟨rfl, hb⟩; refine ⟨_, rfl, ?_⟩; have n0_ := Aside0.mk (blk_below (g := gb629) (o := .cells #[.int .i64 t625, .int .i64 t626] 24 (0, 0)) (by (with_reducible repeat (first | refine blk_drewN ?_ _ | refine blk_drew ?_ | refine blk_alloc ?_ _)); refine blk_far ?_ NB629_630.out _; (with_reducible repeat (first | refine blk_drewN ?_ _ | refine blk_drew ?_ | refine blk_alloc ?_ _)); refine blk_far ?_ NB629_630.out _; (with_reducible repeat (first | refine blk_drewN ?_ _ | refine blk_drew ?_ | refine blk_alloc ?_ _)); refine blk_put (cs := #[.int .i64 t625, .int .i64 0]) ?_ 1 _ rfl; (with_reducible repeat (first | refine blk_drewN ?_ _ | refine blk_drew ?_ | refine blk_alloc ?_ _)); refine blk_put (cs := #[.int .i64 0, .int .i64 0]) ?_ 0 _ rfl; (with_reducible repeat (first | refine blk_drewN ?_ _ | refine blk_drew ?_ | refine blk_alloc ?_ _)); exact BK629.out) hb); have n1_ := Aside0.mk (blk_below (g := gb630) (o := .cells #[.int .i64 t627, .int .i64 t628] 24 (0, 0)) (by (with_reducible repeat (first | refine blk_drewN ?_ _ | refine blk_drew ?_ | refine blk_alloc ?_ _)); refine blk_put (cs := #[.int .i64 t627, .int .i64 0]) ?_ 1 _ rfl; (with_reducible repeat (first | refine blk_drewN ?_ _ | refine blk_drew ?_ | refine blk_alloc ?_ _)); refine blk_put (cs := #[.int .i64 0, .int .i64 0]) ?_ 0 _ rfl; (with_reducible repeat (first | refine blk_drewN ?_ _ | refine blk_drew ?_ | refine blk_alloc ?_ _)); refine blk_far ?_ NB630_629.out _; (with_reducible repeat (first | refine blk_drewN ?_ _ | refine blk_drew ?_ | refine blk_alloc ?_ _)); refine blk_far ?_ NB630_629.out _; (with_reducible repeat (first | refine blk_drewN ?_ _ | refine blk_drew ?_ | refine blk_alloc ?_ _)); exact BK630.out) hb); have n2_ := Aside0.mk (below_step (by repeat (first | (with_reducible first | exact HB.out | apply below_alloc | apply pw_below_drewN | apply below_drew1 | refine below_set ?_ GE629.out | refine below_set ?_ GE630.out) | exact HB.out)) hb); clear BK629; clear BK630; clear HB; have BK629 := n0_; have BK630 := n1_; have HB := n2_; clear n0_ n1_ n2_; (try clear hb); (try clear hb2); (try clear hk); (try clear hi); have hcz14_0 : w13.cell? ⟨gb629, 0, none⟩ = some (.int .i64 t625) := (blk_cell BK629.out 0).trans rfl; have hcz14_1 : w13.cell? ⟨gb629, 1, none⟩ = some (.int .i64 t626) := (blk_cell BK629.out 1).trans rfl; have hfz14_0 := blk_frozen BK629.out 0; have hfz14_1 := blk_frozen BK629.out 1; have hcz15_0 : w13.cell? ⟨gb630, 0, none⟩ = some (.int .i64 t627) := (blk_cell BK630.out 0).trans rfl; have hcz15_1 : w13.cell? ⟨gb630, 1, none⟩ = some (.int .i64 t628) := (blk_cell BK630.out 1).trans rfl; have hfz15_0 := blk_frozen BK630.out 0; have hfz15_1 := blk_frozen BK630.out 1) | ((with_reducible refine gate_callee (f := 35) rfl ?_); refine goesL_ (some 26) rfl rfl Try.func35 (by kernel_rfl) rfl #[.agg #[.int .i64 t625, .int .i64 t626], .agg #[.int .i64 t627, .int .i64 t628]] rfl (by (try simp only [List.map_toArray, List.map_cons, List.map_nil]); first | done | rfl | (simp only [List.length_drop, List.length_take]; rfl)) ?_; (with_reducible refine (spec_BearingLess.calls k t625 t626 t627 t628 t632 _ A5.out).mono ?_); rintro e w16 ⟨rfl, hb⟩; refine ⟨_, rfl, ?_⟩; have n0_ := Aside0.mk (blk_below (g := gb629) (o := .cells #[.int .i64 t625, .int .i64 t626] 24 (0, 0)) (by (with_reducible repeat (first | refine blk_drewN ?_ _ | refine blk_drew ?_ | refine blk_alloc ?_ _)); exact BK629.out) hb); have n1_ := Aside0.mk (blk_below (g := gb630) (o := .cells #[.int .i64 t627, .int .i64 t628] 24 (0, 0)) (by (with_reducible repeat (first | refine blk_drewN ?_ _ | refine blk_drew ?_ | refine blk_alloc ?_ _)); exact BK630.out) hb); have n2_ := Aside0.mk (below_step (by repeat (first | (with_reducible first | exact HB.out | apply below_alloc | apply pw_below_drewN | apply below_drew1 | refine below_set ?_ GE629.out | refine below_set ?_ GE630.out) | exact HB.out)) hb); clear BK629; clear BK630; clear HB; have BK629 := n0_; have BK630 := n1_; have HB := n2_; clear n0_ n1_ n2_; (try clear hb); (try clear hb2); (try clear hk); (try clear hi)))
    (try simp only [Act.put, List.setIfInBounds_toArray, List.set_cons_zero, List.set_cons_succ])
    go_cut [33] (fun v33 wc => ∃ (kq : Nat) (x33_5 : Bool), v33 = .bool x33_5 ∧ Aside0 (laws_FnBearingSide.j0 kq t631 t632 x33_5 t625 t626 t627 t628 = some r) ∧ Aside0 (kq ≤ k) ∧ Aside0 (wc.heap[gb629]? = some (.cells #[.int .i64 t625, .int .i64 t626] 24 (0, 0))) ∧ Aside0 (wc.heap[gb630]? = some (.cells #[.int .i64 t627, .int .i64 t628] 24 (0, 0))) ∧ Aside0 (Below w.heap.size w wc))
    case first =>
      have H := HC6.out
      clear HC6
      by_cases c17 : (t631 != t632) = true
      · rw [if_pos c17] at H
        have c17b0 : (t631 != t632) = true := c17
        (try (have c17b1 : decide (t631 = t632) = false := by simpa using c17))
        (try (have c17b2 : (t631 == t632) = false := by simpa using c17))
        (try (have c17b3 : ¬ (t631 = t632) := by simpa using c17))
        clear c17
        (first | rw [c17b0] | (simp only [i64_w, i32_w]; rw [c17b0]) | skip)
        have H' := Aside0.mk H
        clear H
        go_wp2
        go_meet
        case rel => exact ⟨_, (true), (by first | rfl | (simp; done) | (simp [*]; done)), H', ⟨by first | omega | exact Nat.le_refl _⟩, ⟨by (with_reducible repeat (first | refine blk_drewN ?_ _ | refine blk_drew ?_ | refine blk_alloc ?_ _)); exact BK629.out⟩, ⟨by (with_reducible repeat (first | refine blk_drewN ?_ _ | refine blk_drew ?_ | refine blk_alloc ?_ _)); exact BK630.out⟩, ⟨by repeat (first | (with_reducible first | exact HB.out | apply below_alloc | apply pw_below_drewN | apply below_drew1 | refine below_set ?_ GE629.out | refine below_set ?_ GE630.out) | exact HB.out)⟩⟩
      · rw [if_neg c17] at H
        have c17b0 : (t631 != t632) = false := by simpa using c17
        (try (have c17b1 : decide (t631 = t632) = true := by simpa using c17))
        (try (have c17b2 : (t631 == t632) = true := by simpa using c17))
        clear c17
        (first | rw [c17b0] | (simp only [i64_w, i32_w]; rw [c17b0]) | skip)
        have H' := Aside0.mk H
        clear H
        go_wp2
        go_meet
        case rel => exact ⟨_, (!t631), (by first | rfl | (simp; done) | (simp [*]; done)), H', ⟨by first | omega | exact Nat.le_refl _⟩, ⟨by (with_reducible repeat (first | refine blk_drewN ?_ _ | refine blk_drew ?_ | refine blk_alloc ?_ _)); exact BK629.out⟩, ⟨by (with_reducible repeat (first | refine blk_drewN ?_ _ | refine blk_drew ?_ | refine blk_alloc ?_ _)); exact BK630.out⟩, ⟨by repeat (first | (with_reducible first | exact HB.out | apply below_alloc | apply pw_below_drewN | apply below_drew1 | refine below_set ?_ GE629.out | refine below_set ?_ GE630.out) | exact HB.out)⟩⟩
    case rest =>
      clear HC6
      try clear c1
      try clear c2
      try clear c2b0
      try clear c2b1
      try clear p2
      try clear c3
      try clear c10
      try clear c13
      try clear c17
      try clear c17b0
      try clear c17b1
      try clear c17b2
      try clear hcz11_0
      try clear hcz11_1
      try clear hcz12_0
      try clear hcz12_1
      try clear hcz14_0
      try clear hcz14_1
      try clear hcz15_0
      try clear hcz15_1
      try clear hfz11_0
      try clear hfz11_1
      try clear hfz12_0
      try clear hfz12_1
      try clear hfz14_0
      try clear hfz14_1
      try clear hfz15_0
      try clear hfz15_1
      obtain ⟨kq, x33_5, rfl, HA, HJ5, BK629, BK630, HB⟩ := hcut
      cases kq with
      | zero => exact absurd HA.out (by simp [laws_FnBearingSide.j0])
      | succ kj5 =>
        have H := HA.out
        clear HA
        simp only [laws_FnBearingSide.j0] at H
        by_cases c18 : x33_5 = true
        · subst c18
          have H1 : (some (t631 == t632)) = some r := by rw [if_pos rfl] at H; exact H
          clear H
          have H := H1
          clear H1
          obtain rfl := Option.some.inj H
          go_wp2
          go_ret
          exact ⟨by first | rfl | (simp [errW_none, errW_some] <;> rfl) | (simp [*, errW_none, errW_some] <;> rfl), by repeat (first | (with_reducible first | exact HB.out | apply below_alloc | apply pw_below_drewN | apply below_drew1 | refine below_set ?_ GE629.out | refine below_set ?_ GE630.out) | exact HB.out)⟩
        · replace c18 := Bool.eq_false_iff.mpr c18
          subst c18
          have H1 : ((impl_BearingQuarter.f kj5 t625 t626).bind fun bt633 => ((impl_BearingQuarter.f kj5 t627 t628).bind fun bt635 => (if bt635.1 > (wrap64 (bt633.1 + 1)) then (if bt633.2 = true then (some bt635.2) else (some false)) else (if t625 = (wrap64 (-t627)) then (if t626 = (wrap64 (-t628)) then (if bt633.2 = true then (some bt635.2) else (some false)) else ((impl_PointSide.f kj5 0 0 t627 t628 t625 t626).bind fun bt637 => (if bt637.2 = true then (some (bt637.1 == 1)) else (some true)))) else ((impl_PointSide.f kj5 0 0 t627 t628 t625 t626).bind fun bt639 => (if bt639.2 = true then (some (bt639.1 == 1)) else (some true))))))) = some r := by rw [if_neg (show ¬ (false = true) by decide)] at H; exact H
          clear H
          have H := H1
          clear H1
          replace H := Option.bind_eq_some_iff.mp H
          obtain ⟨⟨t633, t634⟩, A190, H⟩ := H
          replace H : ((impl_BearingQuarter.f kj5 t627 t628).bind fun bt635 => (if bt635.1 > (wrap64 (t633 + 1)) then (if t634 = true then (some bt635.2) else (some false)) else (if t625 = (wrap64 (-t627)) then (if t626 = (wrap64 (-t628)) then (if t634 = true then (some bt635.2) else (some false)) else ((impl_PointSide.f kj5 0 0 t627 t628 t625 t626).bind fun bt637 => (if bt637.2 = true then (some (bt637.1 == 1)) else (some true)))) else ((impl_PointSide.f kj5 0 0 t627 t628 t625 t626).bind fun bt639 => (if bt639.2 = true then (some (bt639.1 == 1)) else (some true)))))) = some r := H
          have A19 := Aside0.mk A190
          clear A190
          replace H := Option.bind_eq_some_iff.mp H
          obtain ⟨⟨t635, t636⟩, A200, H⟩ := H
          replace H : (if t635 > (wrap64 (t633 + 1)) then (if t634 = true then (some t636) else (some false)) else (if t625 = (wrap64 (-t627)) then (if t626 = (wrap64 (-t628)) then (if t634 = true then (some t636) else (some false)) else ((impl_PointSide.f kj5 0 0 t627 t628 t625 t626).bind fun bt637 => (if bt637.2 = true then (some (bt637.1 == 1)) else (some true)))) else ((impl_PointSide.f kj5 0 0 t627 t628 t625 t626).bind fun bt639 => (if bt639.2 = true then (some (bt639.1 == 1)) else (some true))))) = some r := H
          have A20 := Aside0.mk A200
          clear A200
          by_cases c21 : t635 > (wrap64 (t633 + 1))
          · rw [if_pos c21] at H
            have c21b0 : decide ((wrap64 (t633 + 1)) < t635) = true := decide_eq_true c21
            clear c21
            by_cases c22 : t634 = true
            · subst c22
              have H1 : (some t636) = some r := by rw [if_pos rfl] at H; exact H
              clear H
              have H := H1
              clear H1
              obtain rfl := Option.some.inj H
              have hnb23 := NB629_630.out
              have hnc23 := NB630_629.out
              have hcz24_0 : wc.cell? ⟨gb629, 0, none⟩ = some (.int .i64 t625) := (blk_cell BK629.out 0).trans rfl
              have hcz24_1 : wc.cell? ⟨gb629, 1, none⟩ = some (.int .i64 t626) := (blk_cell BK629.out 1).trans rfl
              have hfz24_0 := blk_frozen BK629.out 0
              have hfz24_1 := blk_frozen BK629.out 1
              go_wp2_with (first | ((with_reducible refine gate_callee (f := 36) rfl ?_); refine goesL_ (some 39) rfl rfl Try.func36 (by kernel_rfl) rfl #[.agg #[.int .i64 t625, .int .i64 t626]] rfl (by (try simp only [List.map_toArray, List.map_cons, List.map_nil]); first | done | rfl | (simp only [List.length_drop, List.length_take]; rfl)) ?_; (with_reducible refine (impl_BearingQuarter.calls kj5 t625 t626 t633 true _ A19.out).mono ?_); rintro e w25 ⟨rfl, hb⟩; refine ⟨_, rfl, ?_⟩; have n0_ := Aside0.mk (blk_below (g := gb629) (o := .cells #[.int .i64 t625, .int .i64 t626] 24 (0, 0)) (by (with_reducible repeat (first | refine blk_drewN ?_ _ | refine blk_drew ?_ | refine blk_alloc ?_ _)); exact BK629.out) hb); have n1_ := Aside0.mk (blk_below (g := gb630) (o := .cells #[.int .i64 t627, .int .i64 t628] 24 (0, 0)) (by (with_reducible repeat (first | refine blk_drewN ?_ _ | refine blk_drew ?_ | refine blk_alloc ?_ _)); exact BK630.out) hb); have n2_ := Aside0.mk (below_step (by repeat (first | (with_reducible first | exact HB.out | apply below_alloc | apply pw_below_drewN | apply below_drew1 | refine below_set ?_ GE629.out | refine below_set ?_ GE630.out) | exact HB.out)) hb); clear BK629; clear BK630; clear HB; have BK629 := n0_; have BK630 := n1_; have HB := n2_; clear n0_ n1_ n2_; (try clear hb); (try clear hb2); (try clear hk); (try clear hi); have hcz26_0 : w25.cell? ⟨gb630, 0, none⟩ = some (.int .i64 t627) := (blk_cell BK630.out 0).trans rfl; have hcz26_1 : w25.cell? ⟨gb630, 1, none⟩ = some (.int .i64 t628) := (blk_cell BK630.out 1).trans rfl; have hfz26_0 := blk_frozen BK630.out 0; have hfz26_1 := blk_frozen BK630.out 1) | ((with_reducible refine gate_callee (f := 36) rfl ?_); refine goesL_ (some 44) rfl rfl Try.func36 (by kernel_rfl) rfl #[.agg #[.int .i64 t627, .int .i64 t628]] rfl (by (try simp only [List.map_toArray, List.map_cons, List.map_nil]); first | done | rfl | (simp only [List.length_drop, List.length_take]; rfl)) ?_; (with_reducible refine (impl_BearingQuarter.calls kj5 t627 t628 t635 t636 _ A20.out).mono ?_); rintro e w27 ⟨rfl, hb⟩; refine ⟨_, rfl, ?_⟩; have n0_ := Aside0.mk (blk_below (g := gb629) (o := .cells #[.int .i64 t625, .int .i64 t626] 24 (0, 0)) (by (with_reducible repeat (first | refine blk_drewN ?_ _ | refine blk_drew ?_ | refine blk_alloc ?_ _)); exact BK629.out) hb); have n1_ := Aside0.mk (blk_below (g := gb630) (o := .cells #[.int .i64 t627, .int .i64 t628] 24 (0, 0)) (by (with_reducible repeat (first | refine blk_drewN ?_ _ | refine blk_drew ?_ | refine blk_alloc ?_ _)); exact BK630.out) hb); have n2_ := Aside0.mk (below_step (by repeat (first | (with_reducible first | exact HB.out | apply below_alloc | apply pw_below_drewN | apply below_drew1 | refine below_set ?_ GE629.out | refine below_set ?_ GE630.out) | exact HB.out)) hb); clear BK629; clear BK630; clear HB; have BK629 := n0_; have BK630 := n1_; have HB := n2_; clear n0_ n1_ n2_; (try clear hb); (try clear hb2); (try clear hk); (try clear hi)))
              go_ret
              exact ⟨by first | rfl | (simp [errW_none, errW_some] <;> rfl) | (simp [*, errW_none, errW_some] <;> rfl), by repeat (first | (with_reducible first | exact HB.out | apply below_alloc | apply pw_below_drewN | apply below_drew1 | refine below_set ?_ GE629.out | refine below_set ?_ GE630.out) | exact HB.out)⟩
            · replace c22 := Bool.eq_false_iff.mpr c22
              subst c22
              have H1 : (some false) = some r := by rw [if_neg (show ¬ (false = true) by decide)] at H; exact H
              clear H
              have H := H1
              clear H1
              exact absurd ((Option.some.inj H).trans hT.out) (by decide)
          · rw [if_neg c21] at H
            have c21b0 : decide ((wrap64 (t633 + 1)) < t635) = false := decide_eq_false c21
            clear c21
            by_cases c28 : t625 = (wrap64 (-t627))
            · rw [if_pos c28] at H
              have c28b0 : (t625 == (wrap64 (-t627))) = true := beq_iff_eq.mpr c28
              have c28b1 : (t625 != (wrap64 (-t627))) = false := bne_eq_false_iff_eq.mpr c28
              clear c28
              by_cases c29 : t626 = (wrap64 (-t628))
              · rw [if_pos c29] at H
                have c29b0 : (t626 == (wrap64 (-t628))) = true := beq_iff_eq.mpr c29
                have c29b1 : (t626 != (wrap64 (-t628))) = false := bne_eq_false_iff_eq.mpr c29
                clear c29
                by_cases c30 : t634 = true
                · subst c30
                  have H1 : (some t636) = some r := by rw [if_pos rfl] at H; exact H
                  clear H
                  have H := H1
                  clear H1
                  obtain rfl := Option.some.inj H
                  have hnb31 := NB629_630.out
                  have hnc31 := NB630_629.out
                  have hcz32_0 : wc.cell? ⟨gb629, 0, none⟩ = some (.int .i64 t625) := (blk_cell BK629.out 0).trans rfl
                  have hcz32_1 : wc.cell? ⟨gb629, 1, none⟩ = some (.int .i64 t626) := (blk_cell BK629.out 1).trans rfl
                  have hfz32_0 := blk_frozen BK629.out 0
                  have hfz32_1 := blk_frozen BK629.out 1
                  go_wp2_with (first | ((with_reducible refine gate_callee (f := 36) rfl ?_); refine goesL_ (some 39) rfl rfl Try.func36 (by kernel_rfl) rfl #[.agg #[.int .i64 t625, .int .i64 t626]] rfl (by (try simp only [List.map_toArray, List.map_cons, List.map_nil]); first | done | rfl | (simp only [List.length_drop, List.length_take]; rfl)) ?_; (with_reducible refine (impl_BearingQuarter.calls kj5 t625 t626 t633 true _ A19.out).mono ?_); rintro e w33 ⟨rfl, hb⟩; refine ⟨_, rfl, ?_⟩; have n0_ := Aside0.mk (blk_below (g := gb629) (o := .cells #[.int .i64 t625, .int .i64 t626] 24 (0, 0)) (by (with_reducible repeat (first | refine blk_drewN ?_ _ | refine blk_drew ?_ | refine blk_alloc ?_ _)); exact BK629.out) hb); have n1_ := Aside0.mk (blk_below (g := gb630) (o := .cells #[.int .i64 t627, .int .i64 t628] 24 (0, 0)) (by (with_reducible repeat (first | refine blk_drewN ?_ _ | refine blk_drew ?_ | refine blk_alloc ?_ _)); exact BK630.out) hb); have n2_ := Aside0.mk (below_step (by repeat (first | (with_reducible first | exact HB.out | apply below_alloc | apply pw_below_drewN | apply below_drew1 | refine below_set ?_ GE629.out | refine below_set ?_ GE630.out) | exact HB.out)) hb); clear BK629; clear BK630; clear HB; have BK629 := n0_; have BK630 := n1_; have HB := n2_; clear n0_ n1_ n2_; (try clear hb); (try clear hb2); (try clear hk); (try clear hi); have hcz34_0 : w33.cell? ⟨gb630, 0, none⟩ = some (.int .i64 t627) := (blk_cell BK630.out 0).trans rfl; have hcz34_1 : w33.cell? ⟨gb630, 1, none⟩ = some (.int .i64 t628) := (blk_cell BK630.out 1).trans rfl; have hfz34_0 := blk_frozen BK630.out 0; have hfz34_1 := blk_frozen BK630.out 1) | ((with_reducible refine gate_callee (f := 36) rfl ?_); refine goesL_ (some 44) rfl rfl Try.func36 (by kernel_rfl) rfl #[.agg #[.int .i64 t627, .int .i64 t628]] rfl (by (try simp only [List.map_toArray, List.map_cons, List.map_nil]); first | done | rfl | (simp only [List.length_drop, List.length_take]; rfl)) ?_; (with_reducible refine (impl_BearingQuarter.calls kj5 t627 t628 t635 t636 _ A20.out).mono ?_); rintro e w35 ⟨rfl, hb⟩; refine ⟨_, rfl, ?_⟩; have n0_ := Aside0.mk (blk_below (g := gb629) (o := .cells #[.int .i64 t625, .int .i64 t626] 24 (0, 0)) (by (with_reducible repeat (first | refine blk_drewN ?_ _ | refine blk_drew ?_ | refine blk_alloc ?_ _)); exact BK629.out) hb); have n1_ := Aside0.mk (blk_below (g := gb630) (o := .cells #[.int .i64 t627, .int .i64 t628] 24 (0, 0)) (by (with_reducible repeat (first | refine blk_drewN ?_ _ | refine blk_drew ?_ | refine blk_alloc ?_ _)); exact BK630.out) hb); have n2_ := Aside0.mk (below_step (by repeat (first | (with_reducible first | exact HB.out | apply below_alloc | apply pw_below_drewN | apply below_drew1 | refine below_set ?_ GE629.out | refine below_set ?_ GE630.out) | exact HB.out)) hb); clear BK629; clear BK630; clear HB; have BK629 := n0_; have BK630 := n1_; have HB := n2_; clear n0_ n1_ n2_; (try clear hb); (try clear hb2); (try clear hk); (try clear hi); have hcz36_0 : w35.cell? ⟨gb629, 0, none⟩ = some (.int .i64 t625) := (blk_cell BK629.out 0).trans rfl; have hcz36_1 : w35.cell? ⟨gb629, 1, none⟩ = some (.int .i64 t626) := (blk_cell BK629.out 1).trans rfl; have hfz36_0 := blk_frozen BK629.out 0; have hfz36_1 := blk_frozen BK629.out 1; have hcz37_0 : w35.cell? ⟨gb630, 0, none⟩ = some (.int .i64 t627) := (blk_cell BK630.out 0).trans rfl; have hcz37_1 : w35.cell? ⟨gb630, 1, none⟩ = some (.int .i64 t628) := (blk_cell BK630.out 1).trans rfl; have hfz37_0 := blk_frozen BK630.out 0; have hfz37_1 := blk_frozen BK630.out 1))
                  go_ret
                  exact ⟨by first | rfl | (simp [errW_none, errW_some] <;> rfl) | (simp [*, errW_none, errW_some] <;> rfl), by repeat (first | (with_reducible first | exact HB.out | apply below_alloc | apply pw_below_drewN | apply below_drew1 | refine below_set ?_ GE629.out | refine below_set ?_ GE630.out) | exact HB.out)⟩
                · replace c30 := Bool.eq_false_iff.mpr c30
                  subst c30
                  have H1 : (some false) = some r := by rw [if_neg (show ¬ (false = true) by decide)] at H; exact H
                  clear H
                  have H := H1
                  clear H1
                  exact absurd ((Option.some.inj H).trans hT.out) (by decide)
              · rw [if_neg c29] at H
                have c29b0 : (t626 == (wrap64 (-t628))) = false := beq_eq_false_iff_ne.mpr c29
                have c29b1 : (t626 != (wrap64 (-t628))) = true := bne_iff_ne.mpr c29
                replace H := Option.bind_eq_some_iff.mp H
                obtain ⟨⟨t637, t638⟩, A380, H⟩ := H
                replace H : (if t638 = true then (some (t637 == 1)) else (some true)) = some r := H
                have A38 := Aside0.mk A380
                clear A380
                by_cases c39 : t638 = true
                · subst c39
                  have H1 : (some (t637 == 1)) = some r := by rw [if_pos rfl] at H; exact H
                  clear H
                  have H := H1
                  clear H1
                  obtain rfl := Option.some.inj H
                  have hnb40 := NB629_630.out
                  have hnc40 := NB630_629.out
                  have hcz41_0 : wc.cell? ⟨gb629, 0, none⟩ = some (.int .i64 t625) := (blk_cell BK629.out 0).trans rfl
                  have hcz41_1 : wc.cell? ⟨gb629, 1, none⟩ = some (.int .i64 t626) := (blk_cell BK629.out 1).trans rfl
                  have hfz41_0 := blk_frozen BK629.out 0
                  have hfz41_1 := blk_frozen BK629.out 1
                  go_wp2_with (first | ((with_reducible refine gate_callee (f := 36) rfl ?_); refine goesL_ (some 39) rfl rfl Try.func36 (by kernel_rfl) rfl #[.agg #[.int .i64 t625, .int .i64 t626]] rfl (by (try simp only [List.map_toArray, List.map_cons, List.map_nil]); first | done | rfl | (simp only [List.length_drop, List.length_take]; rfl)) ?_; (with_reducible refine (impl_BearingQuarter.calls kj5 t625 t626 t633 t634 _ A19.out).mono ?_); rintro e w42 ⟨rfl, hb⟩; refine ⟨_, rfl, ?_⟩; have n0_ := Aside0.mk (blk_below (g := gb629) (o := .cells #[.int .i64 t625, .int .i64 t626] 24 (0, 0)) (by (with_reducible repeat (first | refine blk_drewN ?_ _ | refine blk_drew ?_ | refine blk_alloc ?_ _)); exact BK629.out) hb); have n1_ := Aside0.mk (blk_below (g := gb630) (o := .cells #[.int .i64 t627, .int .i64 t628] 24 (0, 0)) (by (with_reducible repeat (first | refine blk_drewN ?_ _ | refine blk_drew ?_ | refine blk_alloc ?_ _)); exact BK630.out) hb); have n2_ := Aside0.mk (below_step (by repeat (first | (with_reducible first | exact HB.out | apply below_alloc | apply pw_below_drewN | apply below_drew1 | refine below_set ?_ GE629.out | refine below_set ?_ GE630.out) | exact HB.out)) hb); clear BK629; clear BK630; clear HB; have BK629 := n0_; have BK630 := n1_; have HB := n2_; clear n0_ n1_ n2_; (try clear hb); (try clear hb2); (try clear hk); (try clear hi); have hcz43_0 : w42.cell? ⟨gb630, 0, none⟩ = some (.int .i64 t627) := (blk_cell BK630.out 0).trans rfl; have hcz43_1 : w42.cell? ⟨gb630, 1, none⟩ = some (.int .i64 t628) := (blk_cell BK630.out 1).trans rfl; have hfz43_0 := blk_frozen BK630.out 0; have hfz43_1 := blk_frozen BK630.out 1) | ((with_reducible refine gate_callee (f := 36) rfl ?_); refine goesL_ (some 44) rfl rfl Try.func36 (by kernel_rfl) rfl #[.agg #[.int .i64 t627, .int .i64 t628]] rfl (by (try simp only [List.map_toArray, List.map_cons, List.map_nil]); first | done | rfl | (simp only [List.length_drop, List.length_take]; rfl)) ?_; (with_reducible refine (impl_BearingQuarter.calls kj5 t627 t628 t635 t636 _ A20.out).mono ?_); rintro e w44 ⟨rfl, hb⟩; refine ⟨_, rfl, ?_⟩; have n0_ := Aside0.mk (blk_below (g := gb629) (o := .cells #[.int .i64 t625, .int .i64 t626] 24 (0, 0)) (by (with_reducible repeat (first | refine blk_drewN ?_ _ | refine blk_drew ?_ | refine blk_alloc ?_ _)); exact BK629.out) hb); have n1_ := Aside0.mk (blk_below (g := gb630) (o := .cells #[.int .i64 t627, .int .i64 t628] 24 (0, 0)) (by (with_reducible repeat (first | refine blk_drewN ?_ _ | refine blk_drew ?_ | refine blk_alloc ?_ _)); exact BK630.out) hb); have n2_ := Aside0.mk (below_step (by repeat (first | (with_reducible first | exact HB.out | apply below_alloc | apply pw_below_drewN | apply below_drew1 | refine below_set ?_ GE629.out | refine below_set ?_ GE630.out) | exact HB.out)) hb); clear BK629; clear BK630; clear HB; have BK629 := n0_; have BK630 := n1_; have HB := n2_; clear n0_ n1_ n2_; (try clear hb); (try clear hb2); (try clear hk); (try clear hi); have hcz45_0 : w44.cell? ⟨gb629, 0, none⟩ = some (.int .i64 t625) := (blk_cell BK629.out 0).trans rfl; have hcz45_1 : w44.cell? ⟨gb629, 1, none⟩ = some (.int .i64 t626) := (blk_cell BK629.out 1).trans rfl; have hfz45_0 := blk_frozen BK629.out 0; have hfz45_1 := blk_frozen BK629.out 1; have hcz46_0 : w44.cell? ⟨gb630, 0, none⟩ = some (.int .i64 t627) := (blk_cell BK630.out 0).trans rfl; have hcz46_1 : w44.cell? ⟨gb630, 1, none⟩ = some (.int .i64 t628) := (blk_cell BK630.out 1).trans rfl; have hfz46_0 := blk_frozen BK630.out 0; have hfz46_1 := blk_frozen BK630.out 1) | ((with_reducible refine gate_callee (f := 21) rfl ?_); refine goesL_ (some 75) rfl rfl Try.func21 (by kernel_rfl) rfl #[.agg #[.int .i64 0, .int .i64 0], .agg #[.int .i64 t627, .int .i64 t628], .agg #[.int .i64 t625, .int .i64 t626]] rfl (by (try simp only [List.map_toArray, List.map_cons, List.map_nil]); first | done | rfl | (simp only [List.length_drop, List.length_take]; rfl)) ?_; (with_reducible refine (impl_PointSide.calls kj5 0 0 t627 t628 t625 t626 t637 true _ A38.out).mono ?_); rintro e w47 ⟨rfl, hb⟩; refine ⟨_, rfl, ?_⟩; have n0_ := Aside0.mk (blk_below (g := gb629) (o := .cells #[.int .i64 t625, .int .i64 t626] 24 (0, 0)) (by (with_reducible repeat (first | refine blk_drewN ?_ _ | refine blk_drew ?_ | refine blk_alloc ?_ _)); exact BK629.out) hb); have n1_ := Aside0.mk (blk_below (g := gb630) (o := .cells #[.int .i64 t627, .int .i64 t628] 24 (0, 0)) (by (with_reducible repeat (first | refine blk_drewN ?_ _ | refine blk_drew ?_ | refine blk_alloc ?_ _)); exact BK630.out) hb); have n2_ := Aside0.mk (below_step (by repeat (first | (with_reducible first | exact HB.out | apply below_alloc | apply pw_below_drewN | apply below_drew1 | refine below_set ?_ GE629.out | refine below_set ?_ GE630.out) | exact HB.out)) hb); clear BK629; clear BK630; clear HB; have BK629 := n0_; have BK630 := n1_; have HB := n2_; clear n0_ n1_ n2_; (try clear hb); (try clear hb2); (try clear hk); (try clear hi)))
                  go_ret
                  exact ⟨by first | rfl | (simp [errW_none, errW_some] <;> rfl) | (simp [*, errW_none, errW_some] <;> rfl), by repeat (first | (with_reducible first | exact HB.out | apply below_alloc | apply pw_below_drewN | apply below_drew1 | refine below_set ?_ GE629.out | refine below_set ?_ GE630.out) | exact HB.out)⟩
                · replace c39 := Bool.eq_false_iff.mpr c39
                  subst c39
                  have H1 : (some true) = some r := by rw [if_neg (show ¬ (false = true) by decide)] at H; exact H
                  clear H
                  have H := H1
                  clear H1
                  obtain rfl := Option.some.inj H
                  have hnb48 := NB629_630.out
                  have hnc48 := NB630_629.out
                  have hcz49_0 : wc.cell? ⟨gb629, 0, none⟩ = some (.int .i64 t625) := (blk_cell BK629.out 0).trans rfl
                  have hcz49_1 : wc.cell? ⟨gb629, 1, none⟩ = some (.int .i64 t626) := (blk_cell BK629.out 1).trans rfl
                  have hfz49_0 := blk_frozen BK629.out 0
                  have hfz49_1 := blk_frozen BK629.out 1
                  go_wp2_with (first | ((with_reducible refine gate_callee (f := 36) rfl ?_); refine goesL_ (some 39) rfl rfl Try.func36 (by kernel_rfl) rfl #[.agg #[.int .i64 t625, .int .i64 t626]] rfl (by (try simp only [List.map_toArray, List.map_cons, List.map_nil]); first | done | rfl | (simp only [List.length_drop, List.length_take]; rfl)) ?_; (with_reducible refine (impl_BearingQuarter.calls kj5 t625 t626 t633 t634 _ A19.out).mono ?_); rintro e w50 ⟨rfl, hb⟩; refine ⟨_, rfl, ?_⟩; have n0_ := Aside0.mk (blk_below (g := gb629) (o := .cells #[.int .i64 t625, .int .i64 t626] 24 (0, 0)) (by (with_reducible repeat (first | refine blk_drewN ?_ _ | refine blk_drew ?_ | refine blk_alloc ?_ _)); exact BK629.out) hb); have n1_ := Aside0.mk (blk_below (g := gb630) (o := .cells #[.int .i64 t627, .int .i64 t628] 24 (0, 0)) (by (with_reducible repeat (first | refine blk_drewN ?_ _ | refine blk_drew ?_ | refine blk_alloc ?_ _)); exact BK630.out) hb); have n2_ := Aside0.mk (below_step (by repeat (first | (with_reducible first | exact HB.out | apply below_alloc | apply pw_below_drewN | apply below_drew1 | refine below_set ?_ GE629.out | refine below_set ?_ GE630.out) | exact HB.out)) hb); clear BK629; clear BK630; clear HB; have BK629 := n0_; have BK630 := n1_; have HB := n2_; clear n0_ n1_ n2_; (try clear hb); (try clear hb2); (try clear hk); (try clear hi); have hcz51_0 : w50.cell? ⟨gb630, 0, none⟩ = some (.int .i64 t627) := (blk_cell BK630.out 0).trans rfl; have hcz51_1 : w50.cell? ⟨gb630, 1, none⟩ = some (.int .i64 t628) := (blk_cell BK630.out 1).trans rfl; have hfz51_0 := blk_frozen BK630.out 0; have hfz51_1 := blk_frozen BK630.out 1) | ((with_reducible refine gate_callee (f := 36) rfl ?_); refine goesL_ (some 44) rfl rfl Try.func36 (by kernel_rfl) rfl #[.agg #[.int .i64 t627, .int .i64 t628]] rfl (by (try simp only [List.map_toArray, List.map_cons, List.map_nil]); first | done | rfl | (simp only [List.length_drop, List.length_take]; rfl)) ?_; (with_reducible refine (impl_BearingQuarter.calls kj5 t627 t628 t635 t636 _ A20.out).mono ?_); rintro e w52 ⟨rfl, hb⟩; refine ⟨_, rfl, ?_⟩; have n0_ := Aside0.mk (blk_below (g := gb629) (o := .cells #[.int .i64 t625, .int .i64 t626] 24 (0, 0)) (by (with_reducible repeat (first | refine blk_drewN ?_ _ | refine blk_drew ?_ | refine blk_alloc ?_ _)); exact BK629.out) hb); have n1_ := Aside0.mk (blk_below (g := gb630) (o := .cells #[.int .i64 t627, .int .i64 t628] 24 (0, 0)) (by (with_reducible repeat (first | refine blk_drewN ?_ _ | refine blk_drew ?_ | refine blk_alloc ?_ _)); exact BK630.out) hb); have n2_ := Aside0.mk (below_step (by repeat (first | (with_reducible first | exact HB.out | apply below_alloc | apply pw_below_drewN | apply below_drew1 | refine below_set ?_ GE629.out | refine below_set ?_ GE630.out) | exact HB.out)) hb); clear BK629; clear BK630; clear HB; have BK629 := n0_; have BK630 := n1_; have HB := n2_; clear n0_ n1_ n2_; (try clear hb); (try clear hb2); (try clear hk); (try clear hi); have hcz53_0 : w52.cell? ⟨gb629, 0, none⟩ = some (.int .i64 t625) := (blk_cell BK629.out 0).trans rfl; have hcz53_1 : w52.cell? ⟨gb629, 1, none⟩ = some (.int .i64 t626) := (blk_cell BK629.out 1).trans rfl; have hfz53_0 := blk_frozen BK629.out 0; have hfz53_1 := blk_frozen BK629.out 1; have hcz54_0 : w52.cell? ⟨gb630, 0, none⟩ = some (.int .i64 t627) := (blk_cell BK630.out 0).trans rfl; have hcz54_1 : w52.cell? ⟨gb630, 1, none⟩ = some (.int .i64 t628) := (blk_cell BK630.out 1).trans rfl; have hfz54_0 := blk_frozen BK630.out 0; have hfz54_1 := blk_frozen BK630.out 1) | ((with_reducible refine gate_callee (f := 21) rfl ?_); refine goesL_ (some 75) rfl rfl Try.func21 (by kernel_rfl) rfl #[.agg #[.int .i64 0, .int .i64 0], .agg #[.int .i64 t627, .int .i64 t628], .agg #[.int .i64 t625, .int .i64 t626]] rfl (by (try simp only [List.map_toArray, List.map_cons, List.map_nil]); first | done | rfl | (simp only [List.length_drop, List.length_take]; rfl)) ?_; (with_reducible refine (impl_PointSide.calls kj5 0 0 t627 t628 t625 t626 t637 false _ A38.out).mono ?_); rintro e w55 ⟨rfl, hb⟩; refine ⟨_, rfl, ?_⟩; have n0_ := Aside0.mk (blk_below (g := gb629) (o := .cells #[.int .i64 t625, .int .i64 t626] 24 (0, 0)) (by (with_reducible repeat (first | refine blk_drewN ?_ _ | refine blk_drew ?_ | refine blk_alloc ?_ _)); exact BK629.out) hb); have n1_ := Aside0.mk (blk_below (g := gb630) (o := .cells #[.int .i64 t627, .int .i64 t628] 24 (0, 0)) (by (with_reducible repeat (first | refine blk_drewN ?_ _ | refine blk_drew ?_ | refine blk_alloc ?_ _)); exact BK630.out) hb); have n2_ := Aside0.mk (below_step (by repeat (first | (with_reducible first | exact HB.out | apply below_alloc | apply pw_below_drewN | apply below_drew1 | refine below_set ?_ GE629.out | refine below_set ?_ GE630.out) | exact HB.out)) hb); clear BK629; clear BK630; clear HB; have BK629 := n0_; have BK630 := n1_; have HB := n2_; clear n0_ n1_ n2_; (try clear hb); (try clear hb2); (try clear hk); (try clear hi)))
                  go_ret
                  exact ⟨by first | rfl | (simp [errW_none, errW_some] <;> rfl) | (simp [*, errW_none, errW_some] <;> rfl), by repeat (first | (with_reducible first | exact HB.out | apply below_alloc | apply pw_below_drewN | apply below_drew1 | refine below_set ?_ GE629.out | refine below_set ?_ GE630.out) | exact HB.out)⟩
            · rw [if_neg c28] at H
              have c28b0 : (t625 == (wrap64 (-t627))) = false := beq_eq_false_iff_ne.mpr c28
              have c28b1 : (t625 != (wrap64 (-t627))) = true := bne_iff_ne.mpr c28
              replace H := Option.bind_eq_some_iff.mp H
              obtain ⟨⟨t639, t640⟩, A560, H⟩ := H
              replace H : (if t640 = true then (some (t639 == 1)) else (some true)) = some r := H
              have A56 := Aside0.mk A560
              clear A560
              by_cases c57 : t640 = true
              · subst c57
                have H1 : (some (t639 == 1)) = some r := by rw [if_pos rfl] at H; exact H
                clear H
                have H := H1
                clear H1
                obtain rfl := Option.some.inj H
                have hnb58 := NB629_630.out
                have hnc58 := NB630_629.out
                have hcz59_0 : wc.cell? ⟨gb629, 0, none⟩ = some (.int .i64 t625) := (blk_cell BK629.out 0).trans rfl
                have hcz59_1 : wc.cell? ⟨gb629, 1, none⟩ = some (.int .i64 t626) := (blk_cell BK629.out 1).trans rfl
                have hfz59_0 := blk_frozen BK629.out 0
                have hfz59_1 := blk_frozen BK629.out 1
                go_wp2_with (first | ((with_reducible refine gate_callee (f := 36) rfl ?_); refine goesL_ (some 39) rfl rfl Try.func36 (by kernel_rfl) rfl #[.agg #[.int .i64 t625, .int .i64 t626]] rfl (by (try simp only [List.map_toArray, List.map_cons, List.map_nil]); first | done | rfl | (simp only [List.length_drop, List.length_take]; rfl)) ?_; (with_reducible refine (impl_BearingQuarter.calls kj5 t625 t626 t633 t634 _ A19.out).mono ?_); rintro e w60 ⟨rfl, hb⟩; refine ⟨_, rfl, ?_⟩; have n0_ := Aside0.mk (blk_below (g := gb629) (o := .cells #[.int .i64 t625, .int .i64 t626] 24 (0, 0)) (by (with_reducible repeat (first | refine blk_drewN ?_ _ | refine blk_drew ?_ | refine blk_alloc ?_ _)); exact BK629.out) hb); have n1_ := Aside0.mk (blk_below (g := gb630) (o := .cells #[.int .i64 t627, .int .i64 t628] 24 (0, 0)) (by (with_reducible repeat (first | refine blk_drewN ?_ _ | refine blk_drew ?_ | refine blk_alloc ?_ _)); exact BK630.out) hb); have n2_ := Aside0.mk (below_step (by repeat (first | (with_reducible first | exact HB.out | apply below_alloc | apply pw_below_drewN | apply below_drew1 | refine below_set ?_ GE629.out | refine below_set ?_ GE630.out) | exact HB.out)) hb); clear BK629; clear BK630; clear HB; have BK629 := n0_; have BK630 := n1_; have HB := n2_; clear n0_ n1_ n2_; (try clear hb); (try clear hb2); (try clear hk); (try clear hi); have hcz61_0 : w60.cell? ⟨gb630, 0, none⟩ = some (.int .i64 t627) := (blk_cell BK630.out 0).trans rfl; have hcz61_1 : w60.cell? ⟨gb630, 1, none⟩ = some (.int .i64 t628) := (blk_cell BK630.out 1).trans rfl; have hfz61_0 := blk_frozen BK630.out 0; have hfz61_1 := blk_frozen BK630.out 1) | ((with_reducible refine gate_callee (f := 36) rfl ?_); refine goesL_ (some 44) rfl rfl Try.func36 (by kernel_rfl) rfl #[.agg #[.int .i64 t627, .int .i64 t628]] rfl (by (try simp only [List.map_toArray, List.map_cons, List.map_nil]); first | done | rfl | (simp only [List.length_drop, List.length_take]; rfl)) ?_; (with_reducible refine (impl_BearingQuarter.calls kj5 t627 t628 t635 t636 _ A20.out).mono ?_); rintro e w62 ⟨rfl, hb⟩; refine ⟨_, rfl, ?_⟩; have n0_ := Aside0.mk (blk_below (g := gb629) (o := .cells #[.int .i64 t625, .int .i64 t626] 24 (0, 0)) (by (with_reducible repeat (first | refine blk_drewN ?_ _ | refine blk_drew ?_ | refine blk_alloc ?_ _)); exact BK629.out) hb); have n1_ := Aside0.mk (blk_below (g := gb630) (o := .cells #[.int .i64 t627, .int .i64 t628] 24 (0, 0)) (by (with_reducible repeat (first | refine blk_drewN ?_ _ | refine blk_drew ?_ | refine blk_alloc ?_ _)); exact BK630.out) hb); have n2_ := Aside0.mk (below_step (by repeat (first | (with_reducible first | exact HB.out | apply below_alloc | apply pw_below_drewN | apply below_drew1 | refine below_set ?_ GE629.out | refine below_set ?_ GE630.out) | exact HB.out)) hb); clear BK629; clear BK630; clear HB; have BK629 := n0_; have BK630 := n1_; have HB := n2_; clear n0_ n1_ n2_; (try clear hb); (try clear hb2); (try clear hk); (try clear hi); have hcz63_0 : w62.cell? ⟨gb629, 0, none⟩ = some (.int .i64 t625) := (blk_cell BK629.out 0).trans rfl; have hcz63_1 : w62.cell? ⟨gb629, 1, none⟩ = some (.int .i64 t626) := (blk_cell BK629.out 1).trans rfl; have hfz63_0 := blk_frozen BK629.out 0; have hfz63_1 := blk_frozen BK629.out 1; have hcz64_0 : w62.cell? ⟨gb630, 0, none⟩ = some (.int .i64 t627) := (blk_cell BK630.out 0).trans rfl; have hcz64_1 : w62.cell? ⟨gb630, 1, none⟩ = some (.int .i64 t628) := (blk_cell BK630.out 1).trans rfl; have hfz64_0 := blk_frozen BK630.out 0; have hfz64_1 := blk_frozen BK630.out 1) | ((with_reducible refine gate_callee (f := 21) rfl ?_); refine goesL_ (some 75) rfl rfl Try.func21 (by kernel_rfl) rfl #[.agg #[.int .i64 0, .int .i64 0], .agg #[.int .i64 t627, .int .i64 t628], .agg #[.int .i64 t625, .int .i64 t626]] rfl (by (try simp only [List.map_toArray, List.map_cons, List.map_nil]); first | done | rfl | (simp only [List.length_drop, List.length_take]; rfl)) ?_; (with_reducible refine (impl_PointSide.calls kj5 0 0 t627 t628 t625 t626 t639 true _ A56.out).mono ?_); rintro e w65 ⟨rfl, hb⟩; refine ⟨_, rfl, ?_⟩; have n0_ := Aside0.mk (blk_below (g := gb629) (o := .cells #[.int .i64 t625, .int .i64 t626] 24 (0, 0)) (by (with_reducible repeat (first | refine blk_drewN ?_ _ | refine blk_drew ?_ | refine blk_alloc ?_ _)); exact BK629.out) hb); have n1_ := Aside0.mk (blk_below (g := gb630) (o := .cells #[.int .i64 t627, .int .i64 t628] 24 (0, 0)) (by (with_reducible repeat (first | refine blk_drewN ?_ _ | refine blk_drew ?_ | refine blk_alloc ?_ _)); exact BK630.out) hb); have n2_ := Aside0.mk (below_step (by repeat (first | (with_reducible first | exact HB.out | apply below_alloc | apply pw_below_drewN | apply below_drew1 | refine below_set ?_ GE629.out | refine below_set ?_ GE630.out) | exact HB.out)) hb); clear BK629; clear BK630; clear HB; have BK629 := n0_; have BK630 := n1_; have HB := n2_; clear n0_ n1_ n2_; (try clear hb); (try clear hb2); (try clear hk); (try clear hi)))
                go_ret
                exact ⟨by first | rfl | (simp [errW_none, errW_some] <;> rfl) | (simp [*, errW_none, errW_some] <;> rfl), by repeat (first | (with_reducible first | exact HB.out | apply below_alloc | apply pw_below_drewN | apply below_drew1 | refine below_set ?_ GE629.out | refine below_set ?_ GE630.out) | exact HB.out)⟩
              · replace c57 := Bool.eq_false_iff.mpr c57
                subst c57
                have H1 : (some true) = some r := by rw [if_neg (show ¬ (false = true) by decide)] at H; exact H
                clear H
                have H := H1
                clear H1
                obtain rfl := Option.some.inj H
                have hnb66 := NB629_630.out
                have hnc66 := NB630_629.out
                have hcz67_0 : wc.cell? ⟨gb629, 0, none⟩ = some (.int .i64 t625) := (blk_cell BK629.out 0).trans rfl
                have hcz67_1 : wc.cell? ⟨gb629, 1, none⟩ = some (.int .i64 t626) := (blk_cell BK629.out 1).trans rfl
                have hfz67_0 := blk_frozen BK629.out 0
                have hfz67_1 := blk_frozen BK629.out 1
                go_wp2_with (first | ((with_reducible refine gate_callee (f := 36) rfl ?_); refine goesL_ (some 39) rfl rfl Try.func36 (by kernel_rfl) rfl #[.agg #[.int .i64 t625, .int .i64 t626]] rfl (by (try simp only [List.map_toArray, List.map_cons, List.map_nil]); first | done | rfl | (simp only [List.length_drop, List.length_take]; rfl)) ?_; (with_reducible refine (impl_BearingQuarter.calls kj5 t625 t626 t633 t634 _ A19.out).mono ?_); rintro e w68 ⟨rfl, hb⟩; refine ⟨_, rfl, ?_⟩; have n0_ := Aside0.mk (blk_below (g := gb629) (o := .cells #[.int .i64 t625, .int .i64 t626] 24 (0, 0)) (by (with_reducible repeat (first | refine blk_drewN ?_ _ | refine blk_drew ?_ | refine blk_alloc ?_ _)); exact BK629.out) hb); have n1_ := Aside0.mk (blk_below (g := gb630) (o := .cells #[.int .i64 t627, .int .i64 t628] 24 (0, 0)) (by (with_reducible repeat (first | refine blk_drewN ?_ _ | refine blk_drew ?_ | refine blk_alloc ?_ _)); exact BK630.out) hb); have n2_ := Aside0.mk (below_step (by repeat (first | (with_reducible first | exact HB.out | apply below_alloc | apply pw_below_drewN | apply below_drew1 | refine below_set ?_ GE629.out | refine below_set ?_ GE630.out) | exact HB.out)) hb); clear BK629; clear BK630; clear HB; have BK629 := n0_; have BK630 := n1_; have HB := n2_; clear n0_ n1_ n2_; (try clear hb); (try clear hb2); (try clear hk); (try clear hi); have hcz69_0 : w68.cell? ⟨gb630, 0, none⟩ = some (.int .i64 t627) := (blk_cell BK630.out 0).trans rfl; have hcz69_1 : w68.cell? ⟨gb630, 1, none⟩ = some (.int .i64 t628) := (blk_cell BK630.out 1).trans rfl; have hfz69_0 := blk_frozen BK630.out 0; have hfz69_1 := blk_frozen BK630.out 1) | ((with_reducible refine gate_callee (f := 36) rfl ?_); refine goesL_ (some 44) rfl rfl Try.func36 (by kernel_rfl) rfl #[.agg #[.int .i64 t627, .int .i64 t628]] rfl (by (try simp only [List.map_toArray, List.map_cons, List.map_nil]); first | done | rfl | (simp only [List.length_drop, List.length_take]; rfl)) ?_; (with_reducible refine (impl_BearingQuarter.calls kj5 t627 t628 t635 t636 _ A20.out).mono ?_); rintro e w70 ⟨rfl, hb⟩; refine ⟨_, rfl, ?_⟩; have n0_ := Aside0.mk (blk_below (g := gb629) (o := .cells #[.int .i64 t625, .int .i64 t626] 24 (0, 0)) (by (with_reducible repeat (first | refine blk_drewN ?_ _ | refine blk_drew ?_ | refine blk_alloc ?_ _)); exact BK629.out) hb); have n1_ := Aside0.mk (blk_below (g := gb630) (o := .cells #[.int .i64 t627, .int .i64 t628] 24 (0, 0)) (by (with_reducible repeat (first | refine blk_drewN ?_ _ | refine blk_drew ?_ | refine blk_alloc ?_ _)); exact BK630.out) hb); have n2_ := Aside0.mk (below_step (by repeat (first | (with_reducible first | exact HB.out | apply below_alloc | apply pw_below_drewN | apply below_drew1 | refine below_set ?_ GE629.out | refine below_set ?_ GE630.out) | exact HB.out)) hb); clear BK629; clear BK630; clear HB; have BK629 := n0_; have BK630 := n1_; have HB := n2_; clear n0_ n1_ n2_; (try clear hb); (try clear hb2); (try clear hk); (try clear hi); have hcz71_0 : w70.cell? ⟨gb629, 0, none⟩ = some (.int .i64 t625) := (blk_cell BK629.out 0).trans rfl; have hcz71_1 : w70.cell? ⟨gb629, 1, none⟩ = some (.int .i64 t626) := (blk_cell BK629.out 1).trans rfl; have hfz71_0 := blk_frozen BK629.out 0; have hfz71_1 := blk_frozen BK629.out 1; have hcz72_0 : w70.cell? ⟨gb630, 0, none⟩ = some (.int .i64 t627) := (blk_cell BK630.out 0).trans rfl; have hcz72_1 : w70.cell? ⟨gb630, 1, none⟩ = some (.int .i64 t628) := (blk_cell BK630.out 1).trans rfl; have hfz72_0 := blk_frozen BK630.out 0; have hfz72_1 := blk_frozen BK630.out 1) | ((with_reducible refine gate_callee (f := 21) rfl ?_); refine goesL_ (some 75) rfl rfl Try.func21 (by kernel_rfl) rfl #[.agg #[.int .i64 0, .int .i64 0], .agg #[.int .i64 t627, .int .i64 t628], .agg #[.int .i64 t625, .int .i64 t626]] rfl (by (try simp only [List.map_toArray, List.map_cons, List.map_nil]); first | done | rfl | (simp only [List.length_drop, List.length_take]; rfl)) ?_; (with_reducible refine (impl_PointSide.calls kj5 0 0 t627 t628 t625 t626 t639 false _ A56.out).mono ?_); rintro e w73 ⟨rfl, hb⟩; refine ⟨_, rfl, ?_⟩; have n0_ := Aside0.mk (blk_below (g := gb629) (o := .cells #[.int .i64 t625, .int .i64 t626] 24 (0, 0)) (by (with_reducible repeat (first | refine blk_drewN ?_ _ | refine blk_drew ?_ | refine blk_alloc ?_ _)); exact BK629.out) hb); have n1_ := Aside0.mk (blk_below (g := gb630) (o := .cells #[.int .i64 t627, .int .i64 t628] 24 (0, 0)) (by (with_reducible repeat (first | refine blk_drewN ?_ _ | refine blk_drew ?_ | refine blk_alloc ?_ _)); exact BK630.out) hb); have n2_ := Aside0.mk (below_step (by repeat (first | (with_reducible first | exact HB.out | apply below_alloc | apply pw_below_drewN | apply below_drew1 | refine below_set ?_ GE629.out | refine below_set ?_ GE630.out) | exact HB.out)) hb); clear BK629; clear BK630; clear HB; have BK629 := n0_; have BK630 := n1_; have HB := n2_; clear n0_ n1_ n2_; (try clear hb); (try clear hb2); (try clear hk); (try clear hi)))
                go_ret
                exact ⟨by first | rfl | (simp [errW_none, errW_some] <;> rfl) | (simp [*, errW_none, errW_some] <;> rfl), by repeat (first | (with_reducible first | exact HB.out | apply below_alloc | apply pw_below_drewN | apply below_drew1 | refine below_set ?_ GE629.out | refine below_set ?_ GE630.out) | exact HB.out)⟩

/-- THE ONE PURE STATEMENT of laws_FnBearingSide: yours. -/
def laws_FnBearingSide.Pure : Prop := ∀ (l0 : List Int), l0.length ≤ maxLen → l0.length * 1 ≤ 140737488351232 → (∀ x ∈ l0, (Lit.int .u8 x).wf = true) → ∃ k, laws_FnBearingSide.f k l0 = some true
theorem laws_FnBearingSide.walk (P : laws_FnBearingSide.Pure) (a0 : Option Addr) (len0 cap0 : Nat) (z0 : List Int) (w : World) (w0 : (a0 = none ∧ len0 = 0 ∧ cap0 = 0 ∧ z0 = []) ∨ ∃ x, a0 = some x ∧ len0 ≤ cap0 ∧ cap0 ≤ maxLen ∧ z0.length = cap0 ∧ (∀ i, i < z0.length → w.cell? (x.add i) = some (.int .u8 (z0.getD i 0))) ∧ ∀ n ∈ z0, (Lit.int .u8 n).wf = true) (y0 : len0 * 1 ≤ 140737488351232) :
    Calls Try.prog 13 #[.slice a0 len0 cap0] w fun e w' => e = .returned (.bool true) ∧ Below w.heap.size w w' := by
  obtain ⟨l0, rfl, hr0, hm0, hw0, hc0⟩ := ReadsInt.ofRowC w0
  obtain ⟨k, h⟩ := P l0 hm0 y0 hw0
  refine (laws_FnBearingSide.calls k _ _ l0 true w (Kd.C_of_reads (d := (0 : Int)) (h1 := fun _ => rfl) hr0) hc0 h rfl).mono ?_
  rintro e w' ⟨rfl, hd⟩
  exact ⟨rfl, hd⟩

end Go.Proofs.Yteoajklibkilmaa.Q
