/- Functions of the translation as plain Lean functions, each with a proof that the Go code comes to its answers; written by a program of the prover's (a changed copy of the kit's printer). -/
import Derived.Test.YteoajklibkilmaaQ0
import Derived.Test.YteoajklibkilmaaQ1
import Derived.Test.YteoajklibkilmaaQ10
import Derived.Test.YteoajklibkilmaaQ20
import Derived.Test.YteoajklibkilmaaQ23
import Derived.Test.YteoajklibkilmaaQ25
import Derived.Test.YteoajklibkilmaaQ41
namespace Go.Proofs.Yteoajklibkilmaa.Q
open Go.RowKit Go.Proofs.YteoajklibkilmaaW.PrintWords Go.Proofs.YteoajklibkilmaaW.PrintLast Go.Proofs.YteoajklibkilmaaW.PrintMore
attribute [local go_sem] max2_int min2_int max_two min_two max_three min_three max_four min_four   -- for this text's walks alone
set_option linter.unusedVariables false
set_option linter.unusedSimpArgs false

attribute [local go_sem high] eqA24
/-! ### laws_FnPointGaps: function 12 -/
mutual
def laws_FnPointGaps.j0 : Nat → Int → Int → Bool → Int → Int → Int → Int → Option (Bool)
  | 0, _, _, _, _, _, _, _ => none
  | k + 1, x5, x6, x31, x519000, x519001, x520000, x520001 => if x31 = true then (some (x5 == x6)) else ((impl_PointFar.f k x519000 x519001 x520000 x520001).bind fun t522 => (if t522 > 100 then ((impl_PointGaps.f k x520000 x520001 x519000 x519001).bind fun t523 => (if t523 = x5 then (some (decide (x5 ≥ 1))) else (some false))) else (laws_FnPointGaps.l0 k x5 0 (mn x519000 x520000) x519000 x519001 x520000 x520001)))
def laws_FnPointGaps.l0 : Nat → Int → Int → Int → Int → Int → Int → Int → Option (Bool)
  | 0, _, _, _, _, _, _, _ => none
  | k + 1, x5, x7, x8, x519000, x519001, x520000, x520001 => if x8 ≤ (mx x519000 x520000) then (laws_FnPointGaps.l1 k x5 x7 x8 (mn x519001 x520001) x519000 x519001 x520000 x520001) else (some (x7 == x5))
def laws_FnPointGaps.l1 : Nat → Int → Int → Int → Int → Int → Int → Int → Int → Option (Bool)
  | 0, _, _, _, _, _, _, _, _ => none
  | k + 1, x5, x7, x8, x9, x519000, x519001, x520000, x520001 => if x9 ≤ (mx x519001 x520001) then (if (!(x8 == x519000) || (!(x9 == x519001))) = true then ((impl_PointOn.f k x519000 x519001 x520000 x520001 x8 x9).bind fun t525 => (if t525 = true then (laws_FnPointGaps.l1 k x5 (wrap64 (x7 + 1)) x8 (wrap64 (x9 + 1)) x519000 x519001 x520000 x520001) else (laws_FnPointGaps.l1 k x5 x7 x8 (wrap64 (x9 + 1)) x519000 x519001 x520000 x520001))) else (laws_FnPointGaps.l1 k x5 x7 x8 (wrap64 (x9 + 1)) x519000 x519001 x520000 x520001)) else (laws_FnPointGaps.l0 k x5 x7 (wrap64 (x8 + 1)) x519000 x519001 x520000 x520001)
end
def laws_FnPointGaps.f (k : Nat) (l0 : List Int) : Option (Bool) := if (l0.length : Int) > 1048576 then (some true) else ((spec_DrawPointGaps.f k l0).bind fun bt514 => ((impl_PointGaps.f k bt514.1 bt514.2.1 bt514.2.2.1 bt514.2.2.2).bind fun t520 => ((spec_PointGaps.f k bt514.1 bt514.2.1 bt514.2.2.1 bt514.2.2.2).bind fun t521 => (if t520 = t521 then (laws_FnPointGaps.j0 k t520 t521 (decide (t520 < 0)) bt514.1 bt514.2.1 bt514.2.2.1 bt514.2.2.2) else (laws_FnPointGaps.j0 k t520 t521 true bt514.1 bt514.2.1 bt514.2.2.1 bt514.2.2.2)))))
theorem laws_FnPointGaps.mono_l : ∀ k, (∀ y0 y1 y2 y3 y4 y5 y6, LeO (laws_FnPointGaps.j0 k y0 y1 y2 y3 y4 y5 y6) (laws_FnPointGaps.j0 (k + 1) y0 y1 y2 y3 y4 y5 y6)) ∧ (∀ y0 y1 y2 y3 y4 y5 y6, LeO (laws_FnPointGaps.l0 k y0 y1 y2 y3 y4 y5 y6) (laws_FnPointGaps.l0 (k + 1) y0 y1 y2 y3 y4 y5 y6)) ∧ (∀ y0 y1 y2 y3 y4 y5 y6 y7, LeO (laws_FnPointGaps.l1 k y0 y1 y2 y3 y4 y5 y6 y7) (laws_FnPointGaps.l1 (k + 1) y0 y1 y2 y3 y4 y5 y6 y7))
  | 0 => ⟨fun _ _ _ _ _ _ _ r h => by simp [laws_FnPointGaps.j0] at h, fun _ _ _ _ _ _ _ r h => by simp [laws_FnPointGaps.l0] at h, fun _ _ _ _ _ _ _ _ r h => by simp [laws_FnPointGaps.l1] at h⟩
  | k + 1 => by
    obtain ⟨ih0, ih1, ih2⟩ := laws_FnPointGaps.mono_l k
    refine ⟨?_, ?_, ?_⟩
    · intro y0 y1 y2 y3 y4 y5 y6
      unfold laws_FnPointGaps.j0
      repeat' first
      | (with_reducible exact ih0 _ _ _ _ _ _ _)
      | (with_reducible exact ih1 _ _ _ _ _ _ _)
      | (with_reducible exact ih2 _ _ _ _ _ _ _ _)
      | (with_reducible exact impl_PointFar.mono _ _ _ _ _)
      | (with_reducible exact impl_PointGaps.mono _ _ _ _ _)
      | (with_reducible exact impl_PointOn.mono _ _ _ _ _ _ _)
      | (with_reducible exact spec_DrawPointGaps.mono _ _)
      | (with_reducible exact spec_PointGaps.mono _ _ _ _ _)
      | (with_reducible exact LeO.refl _)
      | (with_reducible exact LeO.none _)
      | (with_reducible refine LeO.ite ?_ ?_)
      | (with_reducible refine LeO.bind ?_ (fun _ => ?_))
      | exact ih0 _ _ _ _ _ _ _
      | exact ih1 _ _ _ _ _ _ _
      | exact ih2 _ _ _ _ _ _ _ _
      | exact impl_PointFar.mono _ _ _ _ _
      | exact impl_PointGaps.mono _ _ _ _ _
      | exact impl_PointOn.mono _ _ _ _ _ _ _
      | exact spec_DrawPointGaps.mono _ _
      | exact spec_PointGaps.mono _ _ _ _ _
      | exact LeO.none _
      | refine LeO.ite ?_ ?_
      | refine LeO.bind ?_ (fun _ => ?_)
    · intro y0 y1 y2 y3 y4 y5 y6
      unfold laws_FnPointGaps.l0
      repeat' first
      | (with_reducible exact ih0 _ _ _ _ _ _ _)
      | (with_reducible exact ih1 _ _ _ _ _ _ _)
      | (with_reducible exact ih2 _ _ _ _ _ _ _ _)
      | (with_reducible exact impl_PointFar.mono _ _ _ _ _)
      | (with_reducible exact impl_PointGaps.mono _ _ _ _ _)
      | (with_reducible exact impl_PointOn.mono _ _ _ _ _ _ _)
      | (with_reducible exact spec_DrawPointGaps.mono _ _)
      | (with_reducible exact spec_PointGaps.mono _ _ _ _ _)
      | (with_reducible exact LeO.refl _)
      | (with_reducible exact LeO.none _)
      | (with_reducible refine LeO.ite ?_ ?_)
      | (with_reducible refine LeO.bind ?_ (fun _ => ?_))
      | exact ih0 _ _ _ _ _ _ _
      | exact ih1 _ _ _ _ _ _ _
      | exact ih2 _ _ _ _ _ _ _ _
      | exact impl_PointFar.mono _ _ _ _ _
      | exact impl_PointGaps.mono _ _ _ _ _
      | exact impl_PointOn.mono _ _ _ _ _ _ _
      | exact spec_DrawPointGaps.mono _ _
      | exact spec_PointGaps.mono _ _ _ _ _
      | exact LeO.none _
      | refine LeO.ite ?_ ?_
      | refine LeO.bind ?_ (fun _ => ?_)
    · intro y0 y1 y2 y3 y4 y5 y6 y7
      unfold laws_FnPointGaps.l1
      repeat' first
      | (with_reducible exact ih0 _ _ _ _ _ _ _)
      | (with_reducible exact ih1 _ _ _ _ _ _ _)
      | (with_reducible exact ih2 _ _ _ _ _ _ _ _)
      | (with_reducible exact impl_PointFar.mono _ _ _ _ _)
      | (with_reducible exact impl_PointGaps.mono _ _ _ _ _)
      | (with_reducible exact impl_PointOn.mono _ _ _ _ _ _ _)
      | (with_reducible exact spec_DrawPointGaps.mono _ _)
      | (with_reducible exact spec_PointGaps.mono _ _ _ _ _)
      | (with_reducible exact LeO.refl _)
      | (with_reducible exact LeO.none _)
      | (with_reducible refine LeO.ite ?_ ?_)
      | (with_reducible refine LeO.bind ?_ (fun _ => ?_))
      | exact ih0 _ _ _ _ _ _ _
      | exact ih1 _ _ _ _ _ _ _
      | exact ih2 _ _ _ _ _ _ _ _
      | exact impl_PointFar.mono _ _ _ _ _
      | exact impl_PointGaps.mono _ _ _ _ _
      | exact impl_PointOn.mono _ _ _ _ _ _ _
      | exact spec_DrawPointGaps.mono _ _
      | exact spec_PointGaps.mono _ _ _ _ _
      | exact LeO.none _
      | refine LeO.ite ?_ ?_
      | refine LeO.bind ?_ (fun _ => ?_)
theorem laws_FnPointGaps.mono : ∀ a0 k, LeO (laws_FnPointGaps.f k a0) (laws_FnPointGaps.f (k + 1) a0) := by
  intro a0 k
  obtain ⟨ih0, ih1, ih2⟩ := laws_FnPointGaps.mono_l k
  unfold laws_FnPointGaps.f
  repeat' first
      | (with_reducible exact ih0 _ _ _ _ _ _ _)
      | (with_reducible exact ih1 _ _ _ _ _ _ _)
      | (with_reducible exact ih2 _ _ _ _ _ _ _ _)
      | (with_reducible exact impl_PointFar.mono _ _ _ _ _)
      | (with_reducible exact impl_PointGaps.mono _ _ _ _ _)
      | (with_reducible exact impl_PointOn.mono _ _ _ _ _ _ _)
      | (with_reducible exact spec_DrawPointGaps.mono _ _)
      | (with_reducible exact spec_PointGaps.mono _ _ _ _ _)
      | (with_reducible exact LeO.refl _)
      | (with_reducible exact LeO.none _)
      | (with_reducible refine LeO.ite ?_ ?_)
      | (with_reducible refine LeO.bind ?_ (fun _ => ?_))
      | exact ih0 _ _ _ _ _ _ _
      | exact ih1 _ _ _ _ _ _ _
      | exact ih2 _ _ _ _ _ _ _ _
      | exact impl_PointFar.mono _ _ _ _ _
      | exact impl_PointGaps.mono _ _ _ _ _
      | exact impl_PointOn.mono _ _ _ _ _ _ _
      | exact spec_DrawPointGaps.mono _ _
      | exact spec_PointGaps.mono _ _ _ _ _
      | exact LeO.none _
      | refine LeO.ite ?_ ?_
      | refine LeO.bind ?_ (fun _ => ?_)
set_option maxHeartbeats 8000000 in
set_option maxRecDepth 100000 in
theorem laws_FnPointGaps.calls (k : Nat) (A0 : Option Addr) (c0 : Nat) (l0 : List Int) (r : Bool) (w : World) (hr0 : Kd.C (Kd.int .u8) w A0 l0.length l0) (hc0 : l0.length ≤ c0) (h : laws_FnPointGaps.f k l0 = some r) (hT0 : r = true) :
    Calls Try.prog 12 #[.slice A0 l0.length c0] w fun e w' => e = .returned (.bool r) ∧ Below w.heap.size w w' := by
  have hu24 := Try.underlying24
  have hT := Aside0.mk hT0
  clear hT0
  have HR0 := Aside0.mk hr0
  have HC0 := Aside0.mk hc0
  clear hr0 hc0
  have HB := Aside0.mk (Below.refl w.heap.size w)
  have H : (if (l0.length : Int) > 1048576 then (some true) else ((spec_DrawPointGaps.f k l0).bind fun bt514 => ((impl_PointGaps.f k bt514.1 bt514.2.1 bt514.2.2.1 bt514.2.2.2).bind fun t520 => ((spec_PointGaps.f k bt514.1 bt514.2.1 bt514.2.2.1 bt514.2.2.2).bind fun t521 => (if t520 = t521 then (laws_FnPointGaps.j0 k t520 t521 (decide (t520 < 0)) bt514.1 bt514.2.1 bt514.2.2.1 bt514.2.2.2) else (laws_FnPointGaps.j0 k t520 t521 true bt514.1 bt514.2.1 bt514.2.2.1 bt514.2.2.2)))))) = some r := h
  clear h
  by_cases c2 : (l0.length : Int) > 1048576
  · rw [if_pos c2] at H
    have c2b0 : decide (1048576 < (l0.length : Int)) = true := decide_eq_true c2
    have c2b1 : decide (1048576 < l0.length) = true := decide_eq_true (by omega)
    clear c2
    obtain rfl := Option.some.inj H
    go_enter Try.func12, Try.ntmps12
    go_wp2
    go_ret
    exact ⟨by first | rfl | (simp [errW_none, errW_some] <;> rfl) | (simp [*, errW_none, errW_some] <;> rfl), by repeat (first | (with_reducible first | exact HB.out | apply below_alloc | apply pw_below_drewN | apply below_drew1) | exact HB.out)⟩
  · rw [if_neg c2] at H
    have c2b0 : decide (1048576 < (l0.length : Int)) = false := decide_eq_false c2
    have c2b1 : decide (1048576 < l0.length) = false := decide_eq_false (by omega)
    clear c2
    replace H := Option.bind_eq_some_iff.mp H
    obtain ⟨⟨t514, t515, t516, t517⟩, A30, H⟩ := H
    replace H : ((impl_PointGaps.f k t514 t515 t516 t517).bind fun t520 => ((spec_PointGaps.f k t514 t515 t516 t517).bind fun t521 => (if t520 = t521 then (laws_FnPointGaps.j0 k t520 t521 (decide (t520 < 0)) t514 t515 t516 t517) else (laws_FnPointGaps.j0 k t520 t521 true t514 t515 t516 t517)))) = some r := H
    have A3 := Aside0.mk A30
    clear A30
    replace H := Option.bind_eq_some_iff.mp H
    obtain ⟨t520, A40, H⟩ := H
    replace H : ((spec_PointGaps.f k t514 t515 t516 t517).bind fun t521 => (if t520 = t521 then (laws_FnPointGaps.j0 k t520 t521 (decide (t520 < 0)) t514 t515 t516 t517) else (laws_FnPointGaps.j0 k t520 t521 true t514 t515 t516 t517))) = some r := H
    have A4 := Aside0.mk A40
    clear A40
    replace H := Option.bind_eq_some_iff.mp H
    obtain ⟨t521, A50, H⟩ := H
    replace H : (if t520 = t521 then (laws_FnPointGaps.j0 k t520 t521 (decide (t520 < 0)) t514 t515 t516 t517) else (laws_FnPointGaps.j0 k t520 t521 true t514 t515 t516 t517)) = some r := H
    have A5 := Aside0.mk A50
    clear A50
    have HC6 := Aside0.mk H
    clear H
    go_enter Try.func12, Try.ntmps12
    go_upto_region 6 with (first | ((with_reducible refine gate_callee (f := 32) rfl ?_); refine goesL_ (some 16) rfl rfl Try.func32 (by kernel_rfl) rfl #[.slice A0 l0.length c0] rfl (by (try simp only [List.map_toArray, List.map_cons, List.map_nil]); first | done | rfl | (simp only [List.length_drop, List.length_take]; rfl)) ?_; (with_reducible refine (spec_DrawPointGaps.calls k _ _ l0 t514 t515 t516 t517 _ ?side1 ?side2 A3.out).mono ?_); (case side1 => repeat (first | exact HR0.out | (with_reducible refine Kd.C_alloc ?_ _) | (with_reducible refine Kd.C_drewN ?_ _) | (with_reducible refine Kd.C_drew ?_))); (case side2 => exact HC0.out); rintro e w7 ⟨rfl, hb⟩; refine ⟨_, rfl, ?_⟩; have n0_ := Aside0.mk (below_step (by repeat (first | (with_reducible first | exact HB.out | apply below_alloc | apply pw_below_drewN | apply below_drew1) | exact HB.out)) hb); clear HB; have HB := n0_; clear n0_; (try clear hb); (try clear hb2); (try clear hk); (try clear hi)) | ((with_reducible refine gate_dst (N := 3) rfl ?_); refine box_event ?hg (N := 3) ?hd (cs := #[.int .i64 0, .int .i64 0]) (t := 24) ?hr ?_; (case hd => rfl); (case hg => rfl); (case hr => first | (go_simp; done) | (go_simp; rfl)); intro gb518 hg w8 hbox hb; have n0_ := Aside0.mk (below_step (by repeat (first | (with_reducible first | exact HB.out | apply below_alloc | apply pw_below_drewN | apply below_drew1) | exact HB.out)) hb); have n1_ := Aside0.mk (hbox); have n2_ := Aside0.mk ((by rw [hg]; exact (below_size (by repeat (first | (with_reducible first | exact HB.out | apply below_alloc | apply pw_below_drewN | apply below_drew1) | exact HB.out))) : w.heap.size ≤ gb518)); have n3_ := Aside0.mk ((by rw [hg]; exact (below_size (by repeat (first | (with_reducible first | exact HB.out | apply below_alloc | apply pw_below_drewN | apply below_drew1) | exact HB.out))) : w.heap.size ≤ gb518)); clear HB; have HB := n0_; have BK518 := n1_; have GW518 := n2_; have GE518 := n3_; clear n0_ n1_ n2_ n3_; clear hb hbox hg) | ((with_reducible refine gate_dst (N := 4) rfl ?_); refine box_event ?hg (N := 4) ?hd (cs := #[.int .i64 0, .int .i64 0]) (t := 24) ?hr ?_; (case hd => rfl); (case hg => rfl); (case hr => first | (go_simp; done) | (go_simp; rfl)); intro gb519 hg w9 hbox hb; have n0_ := Aside0.mk (blk_below (g := gb518) (o := .cells #[.int .i64 0, .int .i64 0] 24 (0, 0)) (by (with_reducible repeat (first | refine blk_drewN ?_ _ | refine blk_drew ?_ | refine blk_alloc ?_ _)); exact BK518.out) hb); have n1_ := Aside0.mk (below_step (by repeat (first | (with_reducible first | exact HB.out | apply below_alloc | apply pw_below_drewN | apply below_drew1 | refine below_set ?_ GE518.out) | exact HB.out)) hb); have n2_ := Aside0.mk (hbox); have n3_ := Aside0.mk ((by rw [hg]; exact (below_size (by repeat (first | (with_reducible first | exact HB.out | apply below_alloc | apply pw_below_drewN | apply below_drew1 | refine below_set ?_ GE518.out) | exact HB.out))) : w.heap.size ≤ gb519)); have n4_ := Aside0.mk ((by rw [hg]; exact (below_size (by repeat (first | (with_reducible first | exact HB.out | apply below_alloc | apply pw_below_drewN | apply below_drew1 | refine below_set ?_ GE518.out) | exact HB.out))) : w.heap.size ≤ gb519)); have n5_ := Aside0.mk ((by rw [hg]; exact Nat.ne_of_lt (blk_lt (g := gb518) (o := .cells #[.int .i64 0, .int .i64 0] 24 (0, 0)) (by (with_reducible repeat (first | refine blk_drewN ?_ _ | refine blk_drew ?_ | refine blk_alloc ?_ _)); exact BK518.out)) : gb518 ≠ gb519)); have n6_ := Aside0.mk ((by rw [hg]; exact Nat.ne_of_gt (blk_lt (g := gb518) (o := .cells #[.int .i64 0, .int .i64 0] 24 (0, 0)) (by (with_reducible repeat (first | refine blk_drewN ?_ _ | refine blk_drew ?_ | refine blk_alloc ?_ _)); exact BK518.out)) : gb519 ≠ gb518)); clear BK518; clear HB; have BK518 := n0_; have HB := n1_; have BK519 := n2_; have GW519 := n3_; have GE519 := n4_; have NB518_519 := n5_; have NB519_518 := n6_; clear n0_ n1_ n2_ n3_ n4_ n5_ n6_; clear hb hbox hg; have hnb10 := NB518_519.out; have hnc10 := NB519_518.out; have hcz11_0 : w9.cell? ⟨gb518, 0, none⟩ = some (.int .i64 0) := (blk_cell BK518.out 0).trans rfl; have hcz11_1 : w9.cell? ⟨gb518, 1, none⟩ = some (.int .i64 0) := (blk_cell BK518.out 1).trans rfl; have hfz11_0 := blk_frozen BK518.out 0; have hfz11_1 := blk_frozen BK518.out 1; have hcz12_0 : w9.cell? ⟨gb519, 0, none⟩ = some (.int .i64 0) := (blk_cell BK519.out 0).trans rfl; have hcz12_1 : w9.cell? ⟨gb519, 1, none⟩ = some (.int .i64 0) := (blk_cell BK519.out 1).trans rfl; have hfz12_0 := blk_frozen BK519.out 0; have hfz12_1 := blk_frozen BK519.out 1) | ((with_reducible refine gate_callee (f := 25) rfl ?_); refine goesL_ (some 21) rfl rfl Try.func25 (by kernel_rfl) rfl #[.agg #[.int .i64 t514, .int .i64 t515], .agg #[.int .i64 t516, .int .i64 t517]] rfl (by (try simp only [List.map_toArray, List.map_cons, List.map_nil]); first | done | rfl | (simp only [List.length_drop, List.length_take]; rfl)) ?_; (with_reducible refine (impl_PointGaps.calls k t514 t515 t516 t517 t520 _ A4.out).mono ?_); rintro e w13 ⟨rfl, hb⟩; refine ⟨_, rfl, ?_⟩; have n0_ := Aside0.mk (blk_below (g := gb518) (o := .cells #[.int .i64 t514, .int .i64 t515] 24 (0, 0)) (by (with_reducible repeat (first | refine blk_drewN ?_ _ | refine blk_drew ?_ | refine blk_alloc ?_ _)); refine blk_far ?_ NB518_519.out _; (with_reducible repeat (first | refine blk_drewN ?_ _ | refine blk_drew ?_ | refine blk_alloc ?_ _)); refine blk_far ?_ NB518_519.out _; (with_reducible repeat (first | refine blk_drewN ?_ _ | refine blk_drew ?_ | refine blk_alloc ?_ _)); refine blk_put (cs := #[.int .i64 t514, .int .i64 0]) ?_ 1 _ rfl; (with_reducible repeat (first | refine blk_drewN ?_ _ | refine blk_drew ?_ | refine blk_alloc ?_ _)); refine blk_put (cs := #[.int .i64 0, .int .i64 0]) ?_ 0 _ rfl; (with_reducible repeat (first | refine blk_drewN ?_ _ | refine blk_drew ?_ | refine blk_alloc ?_ _)); exact BK518.out) hb); have n1_ := Aside0.mk (blk_below (g := gb519) (o := .cells #[.int .i64 t516, .int .i64 t517] 24 (0, 0)) (by (with_reducible repeat (first | refine blk_drewN ?_ _ | refine blk_drew ?_ | refine blk_alloc ?_ _)); refine blk_put (cs := #[.int .i64 t516, .int .i64 0]) ?_ 1 _ rfl; (with_reducible repeat (first | refine blk_drewN ?_ _ | refine blk_drew ?_ | refine blk_alloc ?_ _)); refine blk_put (cs := #[.int .i64 0, .int .i64 0]) ?_ 0 _ rfl; (with_reducible repeat (first | refine blk_drewN ?_ _ | refine blk_drew ?_ | refine blk_alloc ?_ _)); refine blk_far ?_ NB519_518.out _; (with_reducible repeat (first | refine blk_drewN ?_ _ | refine blk_drew ?_ | refine blk_alloc ?_ _)); refine blk_far ?_ NB519_518.out _; (with_reducible repeat (first | refine blk_drewN ?_ _ | refine blk_drew ?_ | refine blk_alloc ?_ _)); exact BK519.out) hb); have n2_ := Aside0.mk (below_step (by repeat (first | (with_reducible first | exact HB.out | apply below_alloc | apply pw_below_drewN | apply below_drew1 | refine below_set ?_ GE518.out | refine below_set ?_ GE519.out) | exact HB.out)) hb); clear BK518; clear BK519; clear HB; have BK518 := n0_; have BK519 := n1_; have HB := n2_; clear n0_ n1_ n2_; (try clear hb); (try clear hb2); (try clear hk); (try clear hi); have hcz14_0 : w13.cell? ⟨gb518, 0, none⟩ = some (.int .i64 t514) := (blk_cell BK518.out 0).trans rfl; have hcz14_1 : w13.cell? ⟨gb518, 1, none⟩ = some (.int .i64 t515) := (blk_cell BK518.out 1).trans rfl; have hfz14_0 := blk_frozen BK518.out 0; have hfz14_1 := blk_frozen BK518.out 1; have hcz15_0 : w13.cell? ⟨gb519, 0, none⟩ = some (.int .i64 t516) := (blk_cell BK519.out 0).trans rfl; have hcz15_1 : w13.cell? ⟨gb519, 1, none⟩ = some (.int .i64 t517) := (blk_cell BK519.out 1).trans rfl; have hfz15_0 := blk_frozen BK519.out 0; have hfz15_1 := blk_frozen BK519.out 1) | ((with_reducible refine gate_callee (f := 24) rfl ?_); refine goesL_ (some 24) rfl rfl Try.func24 (by kernel_rfl) rfl #[.agg #[.int .i64 t514, .int .i64 t515], .agg #[.int .i64 t516, .int .i64 t517]] rfl (by (try simp only [List.map_toArray, List.map_cons, List.map_nil]); first | done | rfl | (simp only [List.length_drop, List.length_take]; rfl)) ?_; (with_reducible refine (spec_PointGaps.calls k t514 t515 t516 t517 t521 _ A5.out).mono ?_); rintro e w16 ⟨rfl, hb⟩; refine ⟨_, rfl, ?_⟩; have n0_ := Aside0.mk (blk_below (g := gb518) (o := .cells #[.int .i64 t514, .int .i64 t515] 24 (0, 0)) (by (with_reducible repeat (first | refine blk_drewN ?_ _ | refine blk_drew ?_ | refine blk_alloc ?_ _)); exact BK518.out) hb); have n1_ := Aside0.mk (blk_below (g := gb519) (o := .cells #[.int .i64 t516, .int .i64 t517] 24 (0, 0)) (by (with_reducible repeat (first | refine blk_drewN ?_ _ | refine blk_drew ?_ | refine blk_alloc ?_ _)); exact BK519.out) hb); have n2_ := Aside0.mk (below_step (by repeat (first | (with_reducible first | exact HB.out | apply below_alloc | apply pw_below_drewN | apply below_drew1 | refine below_set ?_ GE518.out | refine below_set ?_ GE519.out) | exact HB.out)) hb); clear BK518; clear BK519; clear HB; have BK518 := n0_; have BK519 := n1_; have HB := n2_; clear n0_ n1_ n2_; (try clear hb); (try clear hb2); (try clear hk); (try clear hi)))
    (try simp only [Act.put, List.setIfInBounds_toArray, List.set_cons_zero, List.set_cons_succ])
    go_cut [31] (fun v31 wc => ∃ (kq : Nat) (x31_5 : Bool), v31 = .bool x31_5 ∧ Aside0 (laws_FnPointGaps.j0 kq t520 t521 x31_5 t514 t515 t516 t517 = some r) ∧ Aside0 (kq ≤ k) ∧ Aside0 (wc.heap[gb518]? = some (.cells #[.int .i64 t514, .int .i64 t515] 24 (0, 0))) ∧ Aside0 (wc.heap[gb519]? = some (.cells #[.int .i64 t516, .int .i64 t517] 24 (0, 0))) ∧ Aside0 (Below w.heap.size w wc))
    case first =>
      have H := HC6.out
      clear HC6
      by_cases c17 : t520 = t521
      · rw [if_pos c17] at H
        have c17b0 : (t520 == t521) = true := beq_iff_eq.mpr c17
        have c17b1 : (t520 != t521) = false := bne_eq_false_iff_eq.mpr c17
        clear c17
        (first | rw [c17b0] | (simp only [i64_w, i32_w]; rw [c17b0]) | skip)
        have H' := Aside0.mk H
        clear H
        go_wp2
        go_meet
        case rel => exact ⟨_, (decide (t520 < 0)), (by first | rfl | (simp; done) | (simp [*]; done)), H', ⟨by first | omega | exact Nat.le_refl _⟩, ⟨by (with_reducible repeat (first | refine blk_drewN ?_ _ | refine blk_drew ?_ | refine blk_alloc ?_ _)); exact BK518.out⟩, ⟨by (with_reducible repeat (first | refine blk_drewN ?_ _ | refine blk_drew ?_ | refine blk_alloc ?_ _)); exact BK519.out⟩, ⟨by repeat (first | (with_reducible first | exact HB.out | apply below_alloc | apply pw_below_drewN | apply below_drew1 | refine below_set ?_ GE518.out | refine below_set ?_ GE519.out) | exact HB.out)⟩⟩
      · rw [if_neg c17] at H
        have c17b0 : (t520 == t521) = false := beq_eq_false_iff_ne.mpr c17
        have c17b1 : (t520 != t521) = true := bne_iff_ne.mpr c17
        (first | rw [c17b0] | (simp only [i64_w, i32_w]; rw [c17b0]) | skip)
        have H' := Aside0.mk H
        clear H
        go_wp2
        go_meet
        case rel => exact ⟨_, (true), (by first | rfl | (simp; done) | (simp [*]; done)), H', ⟨by first | omega | exact Nat.le_refl _⟩, ⟨by (with_reducible repeat (first | refine blk_drewN ?_ _ | refine blk_drew ?_ | refine blk_alloc ?_ _)); exact BK518.out⟩, ⟨by (with_reducible repeat (first | refine blk_drewN ?_ _ | refine blk_drew ?_ | refine blk_alloc ?_ _)); exact BK519.out⟩, ⟨by repeat (first | (with_reducible first | exact HB.out | apply below_alloc | apply pw_below_drewN | apply below_drew1 | refine below_set ?_ GE518.out | refine below_set ?_ GE519.out) | exact HB.out)⟩⟩
    case rest =>
      clear HC6
      try clear c1
      try clear c2
      try clear c2b0
      try clear c2b1
      try clear p2
      try clear c3
      try clear c10
      try clear c12
      try clear c17
      try clear c17b0
      try clear c17b1
      try clear hcz11_0
      try clear hcz11_1
      try clear hcz12_0
      try clear hcz12_1
      try clear hcz14_0
      try clear hcz14_1
      try clear hcz15_0
      try clear hcz15_1
      try clear hfz11_0
      try clear hfz11_1
      try clear hfz12_0
      try clear hfz12_1
      try clear hfz14_0
      try clear hfz14_1
      try clear hfz15_0
      try clear hfz15_1
      obtain ⟨kq, x31_5, rfl, HA, HJ5, BK518, BK519, HB⟩ := hcut
      cases kq with
      | zero => exact absurd HA.out (by simp [laws_FnPointGaps.j0])
      | succ kj5 =>
        have H := HA.out
        clear HA
        simp only [laws_FnPointGaps.j0] at H
        by_cases c18 : x31_5 = true
        · subst c18
          have H1 : (some (t520 == t521)) = some r := by rw [if_pos rfl] at H; exact H
          clear H
          have H := H1
          clear H1
          obtain rfl := Option.some.inj H
          go_wp2
          go_ret
          exact ⟨by first | rfl | (simp [errW_none, errW_some] <;> rfl) | (simp [*, errW_none, errW_some] <;> rfl), by repeat (first | (with_reducible first | exact HB.out | apply below_alloc | apply pw_below_drewN | apply below_drew1 | refine below_set ?_ GE518.out | refine below_set ?_ GE519.out) | exact HB.out)⟩
        · replace c18 := Bool.eq_false_iff.mpr c18
          subst c18
          have H1 : ((impl_PointFar.f kj5 t514 t515 t516 t517).bind fun t522 => (if t522 > 100 then ((impl_PointGaps.f kj5 t516 t517 t514 t515).bind fun t523 => (if t523 = t520 then (some (decide (t520 ≥ 1))) else (some false))) else (laws_FnPointGaps.l0 kj5 t520 0 (mn t514 t516) t514 t515 t516 t517))) = some r := by rw [if_neg (show ¬ (false = true) by decide)] at H; exact H
          clear H
          have H := H1
          clear H1
          replace H := Option.bind_eq_some_iff.mp H
          obtain ⟨t522, A190, H⟩ := H
          replace H : (if t522 > 100 then ((impl_PointGaps.f kj5 t516 t517 t514 t515).bind fun t523 => (if t523 = t520 then (some (decide (t520 ≥ 1))) else (some false))) else (laws_FnPointGaps.l0 kj5 t520 0 (mn t514 t516) t514 t515 t516 t517)) = some r := H
          have A19 := Aside0.mk A190
          clear A190
          by_cases c20 : t522 > 100
          · rw [if_pos c20] at H
            have c20b0 : decide (100 < t522) = true := decide_eq_true c20
            clear c20
            replace H := Option.bind_eq_some_iff.mp H
            obtain ⟨t523, A210, H⟩ := H
            replace H : (if t523 = t520 then (some (decide (t520 ≥ 1))) else (some false)) = some r := H
            have A21 := Aside0.mk A210
            clear A210
            by_cases c22 : t523 = t520
            · rw [if_pos c22] at H
              have c22b0 : (t523 == t520) = true := beq_iff_eq.mpr c22
              have c22b1 : (t523 != t520) = false := bne_eq_false_iff_eq.mpr c22
              clear c22
              obtain rfl := Option.some.inj H
              have hnb23 := NB518_519.out
              have hnc23 := NB519_518.out
              have hcz24_0 : wc.cell? ⟨gb518, 0, none⟩ = some (.int .i64 t514) := (blk_cell BK518.out 0).trans rfl
              have hcz24_1 : wc.cell? ⟨gb518, 1, none⟩ = some (.int .i64 t515) := (blk_cell BK518.out 1).trans rfl
              have hfz24_0 := blk_frozen BK518.out 0
              have hfz24_1 := blk_frozen BK518.out 1
              have hcz25_0 : wc.cell? ⟨gb519, 0, none⟩ = some (.int .i64 t516) := (blk_cell BK519.out 0).trans rfl
              have hcz25_1 : wc.cell? ⟨gb519, 1, none⟩ = some (.int .i64 t517) := (blk_cell BK519.out 1).trans rfl
              have hfz25_0 := blk_frozen BK519.out 0
              have hfz25_1 := blk_frozen BK519.out 1
              go_wp2_with (first | ((with_reducible refine gate_callee (f := 19) rfl ?_); refine goesL_ (some 37) rfl rfl Try.func19 (by kernel_rfl) rfl #[.agg #[.int .i64 t514, .int .i64 t515], .agg #[.int .i64 t516, .int .i64 t517]] rfl (by (try simp only [List.map_toArray, List.map_cons, List.map_nil]); first | done | rfl | (simp only [List.length_drop, List.length_take]; rfl)) ?_; (with_reducible refine (impl_PointFar.calls kj5 t514 t515 t516 t517 t522 _ A19.out).mono ?_); rintro e w26 ⟨rfl, hb⟩; refine ⟨_, rfl, ?_⟩; have n0_ := Aside0.mk (blk_below (g := gb518) (o := .cells #[.int .i64 t514, .int .i64 t515] 24 (0, 0)) (by (with_reducible repeat (first | refine blk_drewN ?_ _ | refine blk_drew ?_ | refine blk_alloc ?_ _)); exact BK518.out) hb); have n1_ := Aside0.mk (blk_below (g := gb519) (o := .cells #[.int .i64 t516, .int .i64 t517] 24 (0, 0)) (by (with_reducible repeat (first | refine blk_drewN ?_ _ | refine blk_drew ?_ | refine blk_alloc ?_ _)); exact BK519.out) hb); have n2_ := Aside0.mk (below_step (by repeat (first | (with_reducible first | exact HB.out | apply below_alloc | apply pw_below_drewN | apply below_drew1 | refine below_set ?_ GE518.out | refine below_set ?_ GE519.out) | exact HB.out)) hb); clear BK518; clear BK519; clear HB; have BK518 := n0_; have BK519 := n1_; have HB := n2_; clear n0_ n1_ n2_; (try clear hb); (try clear hb2); (try clear hk); (try clear hi); have hcz27_0 : w26.cell? ⟨gb519, 0, none⟩ = some (.int .i64 t516) := (blk_cell BK519.out 0).trans rfl; have hcz27_1 : w26.cell? ⟨gb519, 1, none⟩ = some (.int .i64 t517) := (blk_cell BK519.out 1).trans rfl; have hfz27_0 := blk_frozen BK519.out 0; have hfz27_1 := blk_frozen BK519.out 1; have hcz28_0 : w26.cell? ⟨gb518, 0, none⟩ = some (.int .i64 t514) := (blk_cell BK518.out 0).trans rfl; have hcz28_1 : w26.cell? ⟨gb518, 1, none⟩ = some (.int .i64 t515) := (blk_cell BK518.out 1).trans rfl; have hfz28_0 := blk_frozen BK518.out 0; have hfz28_1 := blk_frozen BK518.out 1) | ((with_reducible refine gate_callee (f := 25) rfl ?_); refine goesL_ (some 41) rfl rfl Try.func25 (by kernel_rfl) rfl #[.agg #[.int .i64 t516, .int .i64 t517], .agg #[.int .i64 t514, .int .i64 t515]] rfl (by (try simp only [List.map_toArray, List.map_cons, List.map_nil]); first | done | rfl | (simp only [List.length_drop, List.length_take]; rfl)) ?_; (with_reducible refine (impl_PointGaps.calls kj5 t516 t517 t514 t515 t523 _ A21.out).mono ?_); rintro e w29 ⟨rfl, hb⟩; refine ⟨_, rfl, ?_⟩; have n0_ := Aside0.mk (blk_below (g := gb518) (o := .cells #[.int .i64 t514, .int .i64 t515] 24 (0, 0)) (by (with_reducible repeat (first | refine blk_drewN ?_ _ | refine blk_drew ?_ | refine blk_alloc ?_ _)); exact BK518.out) hb); have n1_ := Aside0.mk (blk_below (g := gb519) (o := .cells #[.int .i64 t516, .int .i64 t517] 24 (0, 0)) (by (with_reducible repeat (first | refine blk_drewN ?_ _ | refine blk_drew ?_ | refine blk_alloc ?_ _)); exact BK519.out) hb); have n2_ := Aside0.mk (below_step (by repeat (first | (with_reducible first | exact HB.out | apply below_alloc | apply pw_below_drewN | apply below_drew1 | refine below_set ?_ GE518.out | refine below_set ?_ GE519.out) | exact HB.out)) hb); clear BK518; clear BK519; clear HB; have BK518 := n0_; have BK519 := n1_; have HB := n2_; clear n0_ n1_ n2_; (try clear hb); (try clear hb2); (try clear hk); (try clear hi)))
              go_ret
              exact ⟨by first | rfl | (simp [errW_none, errW_some] <;> rfl) | (simp [*, errW_none, errW_some] <;> rfl), by repeat (first | (with_reducible first | exact HB.out | apply below_alloc | apply pw_below_drewN | apply below_drew1 | refine below_set ?_ GE518.out | refine below_set ?_ GE519.out) | exact HB.out)⟩
            · rw [if_neg c22] at H
              have c22b0 : (t523 == t520) = false := beq_eq_false_iff_ne.mpr c22
              have c22b1 : (t523 != t520) = true := bne_iff_ne.mpr c22
              exact absurd ((Option.some.inj H).trans hT.out) (by decide)
          · rw [if_neg c20] at H
            have c20b0 : decide (100 < t522) = false := decide_eq_false c20
            clear c20
            obtain ⟨ji30, hji30⟩ : ∃ j_ : Int, (mn t514 t516) = j_ := ⟨_, rfl⟩
            replace H : (laws_FnPointGaps.l0 kj5 t520 0 ji30 t514 t515 t516 t517) = some r := by first | (rw [hji30] at H; exact H) | (simp only [hji30] at H ⊢; exact H)
            (try rw [hji30] at A19)
            have hji30_ : (if t516 < t514 then t516 else t514) = ji30 := hji30
            have H' := Aside0.mk H
            clear H
            have hnb31 := NB518_519.out
            have hnc31 := NB519_518.out
            have hcz32_0 : wc.cell? ⟨gb518, 0, none⟩ = some (.int .i64 t514) := (blk_cell BK518.out 0).trans rfl
            have hcz32_1 : wc.cell? ⟨gb518, 1, none⟩ = some (.int .i64 t515) := (blk_cell BK518.out 1).trans rfl
            have hfz32_0 := blk_frozen BK518.out 0
            have hfz32_1 := blk_frozen BK518.out 1
            have hcz33_0 : wc.cell? ⟨gb519, 0, none⟩ = some (.int .i64 t516) := (blk_cell BK519.out 0).trans rfl
            have hcz33_1 : wc.cell? ⟨gb519, 1, none⟩ = some (.int .i64 t517) := (blk_cell BK519.out 1).trans rfl
            have hfz33_0 := blk_frozen BK519.out 0
            have hfz33_1 := blk_frozen BK519.out 1
            go_wp2_with (first | ((with_reducible refine gate_callee (f := 19) rfl ?_); refine goesL_ (some 37) rfl rfl Try.func19 (by kernel_rfl) rfl #[.agg #[.int .i64 t514, .int .i64 t515], .agg #[.int .i64 t516, .int .i64 t517]] rfl (by (try simp only [List.map_toArray, List.map_cons, List.map_nil]); first | done | rfl | (simp only [List.length_drop, List.length_take]; rfl)) ?_; (with_reducible refine (impl_PointFar.calls kj5 t514 t515 t516 t517 t522 _ A19.out).mono ?_); rintro e w34 ⟨rfl, hb⟩; refine ⟨_, rfl, ?_⟩; have n0_ := Aside0.mk (blk_below (g := gb518) (o := .cells #[.int .i64 t514, .int .i64 t515] 24 (0, 0)) (by (with_reducible repeat (first | refine blk_drewN ?_ _ | refine blk_drew ?_ | refine blk_alloc ?_ _)); exact BK518.out) hb); have n1_ := Aside0.mk (blk_below (g := gb519) (o := .cells #[.int .i64 t516, .int .i64 t517] 24 (0, 0)) (by (with_reducible repeat (first | refine blk_drewN ?_ _ | refine blk_drew ?_ | refine blk_alloc ?_ _)); exact BK519.out) hb); have n2_ := Aside0.mk (below_step (by repeat (first | (with_reducible first | exact HB.out | apply below_alloc | apply pw_below_drewN | apply below_drew1 | refine below_set ?_ GE518.out | refine below_set ?_ GE519.out) | exact HB.out)) hb); clear BK518; clear BK519; clear HB; have BK518 := n0_; have BK519 := n1_; have HB := n2_; clear n0_ n1_ n2_; (try clear hb); (try clear hb2); (try clear hk); (try clear hi); have hcz35_0 : w34.cell? ⟨gb518, 0, none⟩ = some (.int .i64 t514) := (blk_cell BK518.out 0).trans rfl; have hcz35_1 : w34.cell? ⟨gb518, 1, none⟩ = some (.int .i64 t515) := (blk_cell BK518.out 1).trans rfl; have hfz35_0 := blk_frozen BK518.out 0; have hfz35_1 := blk_frozen BK518.out 1; have hcz36_0 : w34.cell? ⟨gb519, 0, none⟩ = some (.int .i64 t516) := (blk_cell BK519.out 0).trans rfl; have hcz36_1 : w34.cell? ⟨gb519, 1, none⟩ = some (.int .i64 t517) := (blk_cell BK519.out 1).trans rfl; have hfz36_0 := blk_frozen BK519.out 0; have hfz36_1 := blk_frozen BK519.out 1))
            go_loopg [7, 8] kj5 (fun kq v7 v8 w' => ∃ (x7_2 : Int) (x8_2 : Int), v7 = .int .i64 x7_2 ∧ v8 = .int .i64 x8_2 ∧ Aside0 (laws_FnPointGaps.l0 kq t520 x7_2 x8_2 t514 t515 t516 t517 = some r) ∧ Aside0 (kq ≤ kj5) ∧ Aside0 (w'.heap[gb518]? = some (.cells #[.int .i64 t514, .int .i64 t515] 24 (0, 0))) ∧ Aside0 (w'.heap[gb519]? = some (.cells #[.int .i64 t516, .int .i64 t517] 24 (0, 0))) ∧ Aside0 (Below w.heap.size w w'))
            case atStart => exact ⟨(0), (ji30), (by first | rfl | (simp; done) | (simp [*]; done)), (by first | rfl | (simp; done) | (simp only [← hji30] <;> (first | rfl | simp)) | (simp [*]; done)), H', ⟨Nat.le_refl _⟩, ⟨by (with_reducible repeat (first | refine blk_drewN ?_ _ | refine blk_drew ?_ | refine blk_alloc ?_ _)); exact BK518.out⟩, ⟨by (with_reducible repeat (first | refine blk_drewN ?_ _ | refine blk_drew ?_ | refine blk_alloc ?_ _)); exact BK519.out⟩, ⟨by repeat (first | (with_reducible first | exact HB.out | apply below_alloc | apply pw_below_drewN | apply below_drew1 | refine below_set ?_ GE518.out | refine below_set ?_ GE519.out) | exact HB.out)⟩⟩
            case round =>
              clear H'
              try clear c1
              try clear c2
              try clear c2b0
              try clear c2b1
              try clear p2
              try clear c3
              try clear c10
              try clear c12
              try clear c17
              try clear c17b0
              try clear c17b1
              try clear c18
              try clear c19
              try clear c20
              try clear c20b0
              try clear c22
              try clear c22b0
              try clear c22b1
              try clear c23
              try clear c24
              try clear c25
              try clear c31
              try clear c32
              try clear hcz11_0
              try clear hcz11_1
              try clear hcz12_0
              try clear hcz12_1
              try clear hcz14_0
              try clear hcz14_1
              try clear hcz15_0
              try clear hcz15_1
              try clear hcz24_0
              try clear hcz24_1
              try clear hcz25_0
              try clear hcz25_1
              try clear hcz27_0
              try clear hcz27_1
              try clear hcz28_0
              try clear hcz28_1
              try clear hcz32_0
              try clear hcz32_1
              try clear hcz33_0
              try clear hcz33_1
              try clear hcz35_0
              try clear hcz35_1
              try clear hcz36_0
              try clear hcz36_1
              try clear hfz11_0
              try clear hfz11_1
              try clear hfz12_0
              try clear hfz12_1
              try clear hfz14_0
              try clear hfz14_1
              try clear hfz15_0
              try clear hfz15_1
              try clear hfz24_0
              try clear hfz24_1
              try clear hfz25_0
              try clear hfz25_1
              try clear hfz27_0
              try clear hfz27_1
              try clear hfz28_0
              try clear hfz28_1
              try clear hfz32_0
              try clear hfz32_1
              try clear hfz33_0
              try clear hfz33_1
              try clear hfz35_0
              try clear hfz35_1
              try clear hfz36_0
              try clear hfz36_1
              try clear p2
              obtain ⟨x7_2, x8_2, rfl, rfl, HA, HK2, BK518, BK519, HB⟩ := hrel
              cases gk with
              | zero => exact absurd HA.out (by simp [laws_FnPointGaps.l0])
              | succ k2 =>
                have H := HA.out
                clear HA
                simp only [laws_FnPointGaps.l0] at H
                obtain ⟨ji37, hji37⟩ : ∃ j_ : Int, (mx t514 t516) = j_ := ⟨_, rfl⟩
                replace H : (if x8_2 ≤ (ji37) then (laws_FnPointGaps.l1 k2 t520 x7_2 x8_2 (mn t515 t517) t514 t515 t516 t517) else (some (x7_2 == t520))) = some r := by first | (rw [hji37] at H; exact H) | (simp only [hji37] at H ⊢; exact H)
                have hji37_ : (if t514 < t516 then t516 else t514) = ji37 := hji37
                by_cases c38 : x8_2 ≤ (ji37)
                · rw [if_pos c38] at H
                  have c38b0 : decide (x8_2 ≤ (ji37)) = true := decide_eq_true c38
                  clear c38
                  obtain ⟨ji39, hji39⟩ : ∃ j_ : Int, (mn t515 t517) = j_ := ⟨_, rfl⟩
                  replace H : (laws_FnPointGaps.l1 k2 t520 x7_2 x8_2 ji39 t514 t515 t516 t517) = some r := by first | (rw [hji39] at H; exact H) | (simp only [hji39] at H ⊢; exact H)
                  have hji39_ : (if t517 < t515 then t517 else t515) = ji39 := hji39
                  have H' := Aside0.mk H
                  clear H
                  have hnb40 := NB518_519.out
                  have hnc40 := NB519_518.out
                  have hcz41_0 : wr.cell? ⟨gb518, 0, none⟩ = some (.int .i64 t514) := (blk_cell BK518.out 0).trans rfl
                  have hcz41_1 : wr.cell? ⟨gb518, 1, none⟩ = some (.int .i64 t515) := (blk_cell BK518.out 1).trans rfl
                  have hfz41_0 := blk_frozen BK518.out 0
                  have hfz41_1 := blk_frozen BK518.out 1
                  have hcz42_0 : wr.cell? ⟨gb519, 0, none⟩ = some (.int .i64 t516) := (blk_cell BK519.out 0).trans rfl
                  have hcz42_1 : wr.cell? ⟨gb519, 1, none⟩ = some (.int .i64 t517) := (blk_cell BK519.out 1).trans rfl
                  have hfz42_0 := blk_frozen BK519.out 0
                  have hfz42_1 := blk_frozen BK519.out 1
                  go_wp2
                  go_loopg [7, 9] k2 (fun kq v7 v9 w' => ∃ (x7_3 : Int) (x9_3 : Int), v7 = .int .i64 x7_3 ∧ v9 = .int .i64 x9_3 ∧ Aside0 (laws_FnPointGaps.l1 kq t520 x7_3 x8_2 x9_3 t514 t515 t516 t517 = some r) ∧ Aside0 (kq ≤ k2) ∧ Aside0 (w'.heap[gb518]? = some (.cells #[.int .i64 t514, .int .i64 t515] 24 (0, 0))) ∧ Aside0 (w'.heap[gb519]? = some (.cells #[.int .i64 t516, .int .i64 t517] 24 (0, 0))) ∧ Aside0 (Below w.heap.size w w'))
                  case atStart => exact ⟨(x7_2), (ji39), (by first | rfl | (simp; done) | (simp [*]; done)), (by first | rfl | (simp; done) | (simp only [← hji39] <;> (first | rfl | simp)) | (simp [*]; done)), H', ⟨Nat.le_refl _⟩, ⟨by (with_reducible repeat (first | refine blk_drewN ?_ _ | refine blk_drew ?_ | refine blk_alloc ?_ _)); exact BK518.out⟩, ⟨by (with_reducible repeat (first | refine blk_drewN ?_ _ | refine blk_drew ?_ | refine blk_alloc ?_ _)); exact BK519.out⟩, ⟨by repeat (first | (with_reducible first | exact HB.out | apply below_alloc | apply pw_below_drewN | apply below_drew1 | refine below_set ?_ GE518.out | refine below_set ?_ GE519.out) | exact HB.out)⟩⟩
                  case round =>
                    clear H'
                    try clear c1
                    try clear c2
                    try clear c2b0
                    try clear c2b1
                    try clear p2
                    try clear c3
                    try clear c4
                    try clear c10
                    try clear c12
                    try clear c17
                    try clear c17b0
                    try clear c17b1
                    try clear c18
                    try clear c19
                    try clear c20
                    try clear c20b0
                    try clear c22
                    try clear c22b0
                    try clear c22b1
                    try clear c23
                    try clear c24
                    try clear c25
                    try clear c31
                    try clear c32
                    try clear c38
                    try clear c38b0
                    try clear c40
                    try clear hcz11_0
                    try clear hcz11_1
                    try clear hcz12_0
                    try clear hcz12_1
                    try clear hcz14_0
                    try clear hcz14_1
                    try clear hcz15_0
                    try clear hcz15_1
                    try clear hcz24_0
                    try clear hcz24_1
                    try clear hcz25_0
                    try clear hcz25_1
                    try clear hcz27_0
                    try clear hcz27_1
                    try clear hcz28_0
                    try clear hcz28_1
                    try clear hcz32_0
                    try clear hcz32_1
                    try clear hcz33_0
                    try clear hcz33_1
                    try clear hcz35_0
                    try clear hcz35_1
                    try clear hcz36_0
                    try clear hcz36_1
                    try clear hcz41_0
                    try clear hcz41_1
                    try clear hcz42_0
                    try clear hcz42_1
                    try clear hfz11_0
                    try clear hfz11_1
                    try clear hfz12_0
                    try clear hfz12_1
                    try clear hfz14_0
                    try clear hfz14_1
                    try clear hfz15_0
                    try clear hfz15_1
                    try clear hfz24_0
                    try clear hfz24_1
                    try clear hfz25_0
                    try clear hfz25_1
                    try clear hfz27_0
                    try clear hfz27_1
                    try clear hfz28_0
                    try clear hfz28_1
                    try clear hfz32_0
                    try clear hfz32_1
                    try clear hfz33_0
                    try clear hfz33_1
                    try clear hfz35_0
                    try clear hfz35_1
                    try clear hfz36_0
                    try clear hfz36_1
                    try clear hfz41_0
                    try clear hfz41_1
                    try clear hfz42_0
                    try clear hfz42_1
                    try clear p2
                    obtain ⟨x7_3, x9_3, rfl, rfl, HA, HK3, BK518, BK519, HB⟩ := hrel
                    cases gk with
                    | zero => exact absurd HA.out (by simp [laws_FnPointGaps.l1])
                    | succ k3 =>
                      have H := HA.out
                      clear HA
                      simp only [laws_FnPointGaps.l1] at H
                      obtain ⟨ji43, hji43⟩ : ∃ j_ : Int, (mx t515 t517) = j_ := ⟨_, rfl⟩
                      replace H : (if x9_3 ≤ (ji43) then (if (!(x8_2 == t514) || (!(x9_3 == t515))) = true then ((impl_PointOn.f k3 t514 t515 t516 t517 x8_2 x9_3).bind fun t525 => (if t525 = true then (laws_FnPointGaps.l1 k3 t520 (wrap64 (x7_3 + 1)) x8_2 (wrap64 (x9_3 + 1)) t514 t515 t516 t517) else (laws_FnPointGaps.l1 k3 t520 x7_3 x8_2 (wrap64 (x9_3 + 1)) t514 t515 t516 t517))) else (laws_FnPointGaps.l1 k3 t520 x7_3 x8_2 (wrap64 (x9_3 + 1)) t514 t515 t516 t517)) else (laws_FnPointGaps.l0 k3 t520 x7_3 (wrap64 (x8_2 + 1)) t514 t515 t516 t517)) = some r := by first | (rw [hji43] at H; exact H) | (simp only [hji43] at H ⊢; exact H)
                      have hji43_ : (if t515 < t517 then t517 else t515) = ji43 := hji43
                      by_cases c44 : x9_3 ≤ (ji43)
                      · rw [if_pos c44] at H
                        have c44b0 : decide (x9_3 ≤ (ji43)) = true := decide_eq_true c44
                        clear c44
                        by_cases c45 : (!(x8_2 == t514) || (!(x9_3 == t515))) = true
                        · rw [if_pos c45] at H
                          have c45b0 : (!(x8_2 == t514) || (!(x9_3 == t515))) = true := c45
                          clear c45
                          replace H := Option.bind_eq_some_iff.mp H
                          obtain ⟨t525, A460, H⟩ := H
                          replace H : (if t525 = true then (laws_FnPointGaps.l1 k3 t520 (wrap64 (x7_3 + 1)) x8_2 (wrap64 (x9_3 + 1)) t514 t515 t516 t517) else (laws_FnPointGaps.l1 k3 t520 x7_3 x8_2 (wrap64 (x9_3 + 1)) t514 t515 t516 t517)) = some r := H
                          have A46 := Aside0.mk A460
                          clear A460
                          by_cases c47 : t525 = true
                          · subst c47
                            have H1 : (laws_FnPointGaps.l1 k3 t520 (wrap64 (x7_3 + 1)) x8_2 (wrap64 (x9_3 + 1)) t514 t515 t516 t517) = some r := by rw [if_pos rfl] at H; exact H
                            clear H
                            have H := H1
                            clear H1
                            have H' := Aside0.mk H
                            clear H
                            have hnb48 := NB518_519.out
                            have hnc48 := NB519_518.out
                            have hcz49_0 : wr.cell? ⟨gb518, 0, none⟩ = some (.int .i64 t514) := (blk_cell BK518.out 0).trans rfl
                            have hcz49_1 : wr.cell? ⟨gb518, 1, none⟩ = some (.int .i64 t515) := (blk_cell BK518.out 1).trans rfl
                            have hfz49_0 := blk_frozen BK518.out 0
                            have hfz49_1 := blk_frozen BK518.out 1
                            have hcz50_0 : wr.cell? ⟨gb519, 0, none⟩ = some (.int .i64 t516) := (blk_cell BK519.out 0).trans rfl
                            have hcz50_1 : wr.cell? ⟨gb519, 1, none⟩ = some (.int .i64 t517) := (blk_cell BK519.out 1).trans rfl
                            have hfz50_0 := blk_frozen BK519.out 0
                            have hfz50_1 := blk_frozen BK519.out 1
                            go_wp2_with (first | ((with_reducible refine gate_dst (N := 10) rfl ?_); refine box_event ?hg (N := 10) ?hd (cs := #[.int .i64 0, .int .i64 0]) (t := 24) ?hr ?_; (case hd => rfl); (case hg => rfl); (case hr => first | (go_simp; done) | (go_simp; rfl)); intro gb524 hg w51 hbox hb; have n0_ := Aside0.mk (blk_below (g := gb518) (o := .cells #[.int .i64 t514, .int .i64 t515] 24 (0, 0)) (by (with_reducible repeat (first | refine blk_drewN ?_ _ | refine blk_drew ?_ | refine blk_alloc ?_ _)); exact BK518.out) hb); have n1_ := Aside0.mk (blk_below (g := gb519) (o := .cells #[.int .i64 t516, .int .i64 t517] 24 (0, 0)) (by (with_reducible repeat (first | refine blk_drewN ?_ _ | refine blk_drew ?_ | refine blk_alloc ?_ _)); exact BK519.out) hb); have n2_ := Aside0.mk (below_step (by repeat (first | (with_reducible first | exact HB.out | apply below_alloc | apply pw_below_drewN | apply below_drew1 | refine below_set ?_ GE518.out | refine below_set ?_ GE519.out) | exact HB.out)) hb); have n3_ := Aside0.mk (hbox); have n4_ := Aside0.mk ((by rw [hg]; exact (below_size (by repeat (first | (with_reducible first | exact HB.out | apply below_alloc | apply pw_below_drewN | apply below_drew1 | refine below_set ?_ GE518.out | refine below_set ?_ GE519.out) | exact HB.out))) : w.heap.size ≤ gb524)); have n5_ := Aside0.mk ((by rw [hg]; exact (below_size (by repeat (first | (with_reducible first | exact HB.out | apply below_alloc | apply pw_below_drewN | apply below_drew1 | refine below_set ?_ GE518.out | refine below_set ?_ GE519.out) | exact HB.out))) : w.heap.size ≤ gb524)); have n6_ := Aside0.mk ((by rw [hg]; exact Nat.ne_of_lt (blk_lt (g := gb518) (o := .cells #[.int .i64 t514, .int .i64 t515] 24 (0, 0)) (by (with_reducible repeat (first | refine blk_drewN ?_ _ | refine blk_drew ?_ | refine blk_alloc ?_ _)); exact BK518.out)) : gb518 ≠ gb524)); have n7_ := Aside0.mk ((by rw [hg]; exact Nat.ne_of_gt (blk_lt (g := gb518) (o := .cells #[.int .i64 t514, .int .i64 t515] 24 (0, 0)) (by (with_reducible repeat (first | refine blk_drewN ?_ _ | refine blk_drew ?_ | refine blk_alloc ?_ _)); exact BK518.out)) : gb524 ≠ gb518)); have n8_ := Aside0.mk ((by rw [hg]; exact Nat.ne_of_lt (blk_lt (g := gb519) (o := .cells #[.int .i64 t516, .int .i64 t517] 24 (0, 0)) (by (with_reducible repeat (first | refine blk_drewN ?_ _ | refine blk_drew ?_ | refine blk_alloc ?_ _)); exact BK519.out)) : gb519 ≠ gb524)); have n9_ := Aside0.mk ((by rw [hg]; exact Nat.ne_of_gt (blk_lt (g := gb519) (o := .cells #[.int .i64 t516, .int .i64 t517] 24 (0, 0)) (by (with_reducible repeat (first | refine blk_drewN ?_ _ | refine blk_drew ?_ | refine blk_alloc ?_ _)); exact BK519.out)) : gb524 ≠ gb519)); clear BK518; clear BK519; clear HB; have BK518 := n0_; have BK519 := n1_; have HB := n2_; have BK524 := n3_; have GW524 := n4_; have GE524 := n5_; have NB518_524 := n6_; have NB524_518 := n7_; have NB519_524 := n8_; have NB524_519 := n9_; clear n0_ n1_ n2_ n3_ n4_ n5_ n6_ n7_ n8_ n9_; clear hb hbox hg; have hnb52 := NB524_518.out; have hnc52 := NB518_524.out; have hnb53 := NB524_519.out; have hnc53 := NB519_524.out; have hcz54_0 : w51.cell? ⟨gb524, 0, none⟩ = some (.int .i64 0) := (blk_cell BK524.out 0).trans rfl; have hcz54_1 : w51.cell? ⟨gb524, 1, none⟩ = some (.int .i64 0) := (blk_cell BK524.out 1).trans rfl; have hfz54_0 := blk_frozen BK524.out 0; have hfz54_1 := blk_frozen BK524.out 1; have hcz55_0 : w51.cell? ⟨gb518, 0, none⟩ = some (.int .i64 t514) := (blk_cell BK518.out 0).trans rfl; have hcz55_1 : w51.cell? ⟨gb518, 1, none⟩ = some (.int .i64 t515) := (blk_cell BK518.out 1).trans rfl; have hfz55_0 := blk_frozen BK518.out 0; have hfz55_1 := blk_frozen BK518.out 1; have hcz56_0 : w51.cell? ⟨gb519, 0, none⟩ = some (.int .i64 t516) := (blk_cell BK519.out 0).trans rfl; have hcz56_1 : w51.cell? ⟨gb519, 1, none⟩ = some (.int .i64 t517) := (blk_cell BK519.out 1).trans rfl; have hfz56_0 := blk_frozen BK519.out 0; have hfz56_1 := blk_frozen BK519.out 1) | (go_at_call 23; (with_reducible refine (impl_PointOn.calls k3 t514 t515 t516 t517 x8_2 x9_3 true _ A46.out).mono ?_); rintro e w57 ⟨rfl, hb⟩; have n0_ := Aside0.mk (blk_below (g := gb518) (o := .cells #[.int .i64 t514, .int .i64 t515] 24 (0, 0)) (by (with_reducible repeat (first | refine blk_drewN ?_ _ | refine blk_drew ?_ | refine blk_alloc ?_ _)); refine blk_far ?_ NB518_524.out _; (with_reducible repeat (first | refine blk_drewN ?_ _ | refine blk_drew ?_ | refine blk_alloc ?_ _)); refine blk_far ?_ NB518_524.out _; (with_reducible repeat (first | refine blk_drewN ?_ _ | refine blk_drew ?_ | refine blk_alloc ?_ _)); exact BK518.out) hb); have n1_ := Aside0.mk (blk_below (g := gb519) (o := .cells #[.int .i64 t516, .int .i64 t517] 24 (0, 0)) (by (with_reducible repeat (first | refine blk_drewN ?_ _ | refine blk_drew ?_ | refine blk_alloc ?_ _)); refine blk_far ?_ NB519_524.out _; (with_reducible repeat (first | refine blk_drewN ?_ _ | refine blk_drew ?_ | refine blk_alloc ?_ _)); refine blk_far ?_ NB519_524.out _; (with_reducible repeat (first | refine blk_drewN ?_ _ | refine blk_drew ?_ | refine blk_alloc ?_ _)); exact BK519.out) hb); have n2_ := Aside0.mk (blk_below (g := gb524) (o := .cells #[.int .i64 x8_2, .int .i64 x9_3] 24 (0, 0)) (by (with_reducible repeat (first | refine blk_drewN ?_ _ | refine blk_drew ?_ | refine blk_alloc ?_ _)); refine blk_put (cs := #[.int .i64 x8_2, .int .i64 0]) ?_ 1 _ rfl; (with_reducible repeat (first | refine blk_drewN ?_ _ | refine blk_drew ?_ | refine blk_alloc ?_ _)); refine blk_put (cs := #[.int .i64 0, .int .i64 0]) ?_ 0 _ rfl; (with_reducible repeat (first | refine blk_drewN ?_ _ | refine blk_drew ?_ | refine blk_alloc ?_ _)); exact BK524.out) hb); have n3_ := Aside0.mk (below_step (by repeat (first | (with_reducible first | exact HB.out | apply below_alloc | apply pw_below_drewN | apply below_drew1 | refine below_set ?_ GE518.out | refine below_set ?_ GE519.out | refine below_set ?_ GE524.out) | exact HB.out)) hb); clear BK518; clear BK519; clear BK524; clear HB; have BK518 := n0_; have BK519 := n1_; have BK524 := n2_; have HB := n3_; clear n0_ n1_ n2_ n3_; (try clear hb); (try clear hb2); (try clear hk); (try clear hi)))
                            go_roundg k3
                            case measure => have := HJ5.out; have := HK2.out; have := HK3.out; omega
                            case rel => exact ⟨(wrap64 (x7_3 + 1)), (wrap64 (x9_3 + 1)), (by first | rfl | (simp; done) | (simp [*]; done)), (by first | rfl | (simp; done) | (simp [*]; done)), H', ⟨by have := HJ5.out; have := HK2.out; have := HK3.out; omega⟩, ⟨by (with_reducible repeat (first | refine blk_drewN ?_ _ | refine blk_drew ?_ | refine blk_alloc ?_ _)); exact BK518.out⟩, ⟨by (with_reducible repeat (first | refine blk_drewN ?_ _ | refine blk_drew ?_ | refine blk_alloc ?_ _)); exact BK519.out⟩, ⟨by repeat (first | (with_reducible first | exact HB.out | apply below_alloc | apply pw_below_drewN | apply below_drew1 | refine below_set ?_ GE518.out | refine below_set ?_ GE519.out | refine below_set ?_ GE524.out) | exact HB.out)⟩⟩
                          · replace c47 := Bool.eq_false_iff.mpr c47
                            subst c47
                            have H1 : (laws_FnPointGaps.l1 k3 t520 x7_3 x8_2 (wrap64 (x9_3 + 1)) t514 t515 t516 t517) = some r := by rw [if_neg (show ¬ (false = true) by decide)] at H; exact H
                            clear H
                            have H := H1
                            clear H1
                            have H' := Aside0.mk H
                            clear H
                            have hnb58 := NB518_519.out
                            have hnc58 := NB519_518.out
                            have hcz59_0 : wr.cell? ⟨gb518, 0, none⟩ = some (.int .i64 t514) := (blk_cell BK518.out 0).trans rfl
                            have hcz59_1 : wr.cell? ⟨gb518, 1, none⟩ = some (.int .i64 t515) := (blk_cell BK518.out 1).trans rfl
                            have hfz59_0 := blk_frozen BK518.out 0
                            have hfz59_1 := blk_frozen BK518.out 1
                            have hcz60_0 : wr.cell? ⟨gb519, 0, none⟩ = some (.int .i64 t516) := (blk_cell BK519.out 0).trans rfl
                            have hcz60_1 : wr.cell? ⟨gb519, 1, none⟩ = some (.int .i64 t517) := (blk_cell BK519.out 1).trans rfl
                            have hfz60_0 := blk_frozen BK519.out 0
                            have hfz60_1 := blk_frozen BK519.out 1
                            go_wp2_with (first | ((with_reducible refine gate_dst (N := 10) rfl ?_); refine box_event ?hg (N := 10) ?hd (cs := #[.int .i64 0, .int .i64 0]) (t := 24) ?hr ?_; (case hd => rfl); (case hg => rfl); (case hr => first | (go_simp; done) | (go_simp; rfl)); intro gb524 hg w61 hbox hb; have n0_ := Aside0.mk (blk_below (g := gb518) (o := .cells #[.int .i64 t514, .int .i64 t515] 24 (0, 0)) (by (with_reducible repeat (first | refine blk_drewN ?_ _ | refine blk_drew ?_ | refine blk_alloc ?_ _)); exact BK518.out) hb); have n1_ := Aside0.mk (blk_below (g := gb519) (o := .cells #[.int .i64 t516, .int .i64 t517] 24 (0, 0)) (by (with_reducible repeat (first | refine blk_drewN ?_ _ | refine blk_drew ?_ | refine blk_alloc ?_ _)); exact BK519.out) hb); have n2_ := Aside0.mk (below_step (by repeat (first | (with_reducible first | exact HB.out | apply below_alloc | apply pw_below_drewN | apply below_drew1 | refine below_set ?_ GE518.out | refine below_set ?_ GE519.out) | exact HB.out)) hb); have n3_ := Aside0.mk (hbox); have n4_ := Aside0.mk ((by rw [hg]; exact (below_size (by repeat (first | (with_reducible first | exact HB.out | apply below_alloc | apply pw_below_drewN | apply below_drew1 | refine below_set ?_ GE518.out | refine below_set ?_ GE519.out) | exact HB.out))) : w.heap.size ≤ gb524)); have n5_ := Aside0.mk ((by rw [hg]; exact (below_size (by repeat (first | (with_reducible first | exact HB.out | apply below_alloc | apply pw_below_drewN | apply below_drew1 | refine below_set ?_ GE518.out | refine below_set ?_ GE519.out) | exact HB.out))) : w.heap.size ≤ gb524)); have n6_ := Aside0.mk ((by rw [hg]; exact Nat.ne_of_lt (blk_lt (g := gb518) (o := .cells #[.int .i64 t514, .int .i64 t515] 24 (0, 0)) (by (with_reducible repeat (first | refine blk_drewN ?_ _ | refine blk_drew ?_ | refine blk_alloc ?_ _)); exact BK518.out)) : gb518 ≠ gb524)); have n7_ := Aside0.mk ((by rw [hg]; exact Nat.ne_of_gt (blk_lt (g := gb518) (o := .cells #[.int .i64 t514, .int .i64 t515] 24 (0, 0)) (by (with_reducible repeat (first | refine blk_drewN ?_ _ | refine blk_drew ?_ | refine blk_alloc ?_ _)); exact BK518.out)) : gb524 ≠ gb518)); have n8_ := Aside0.mk ((by rw [hg]; exact Nat.ne_of_lt (blk_lt (g := gb519) (o := .cells #[.int .i64 t516, .int .i64 t517] 24 (0, 0)) (by (with_reducible repeat (first | refine blk_drewN ?_ _ | refine blk_drew ?_ | refine blk_alloc ?_ _)); exact BK519.out)) : gb519 ≠ gb524)); have n9_ := Aside0.mk ((by rw [hg]; exact Nat.ne_of_gt (blk_lt (g := gb519) (o := .cells #[.int .i64 t516, .int .i64 t517] 24 (0, 0)) (by (with_reducible repeat (first | refine blk_drewN ?_ _ | refine blk_drew ?_ | refine blk_alloc ?_ _)); exact BK519.out)) : gb524 ≠ gb519)); clear BK518; clear BK519; clear HB; have BK518 := n0_; have BK519 := n1_; have HB := n2_; have BK524 := n3_; have GW524 := n4_; have GE524 := n5_; have NB518_524 := n6_; have NB524_518 := n7_; have NB519_524 := n8_; have NB524_519 := n9_; clear n0_ n1_ n2_ n3_ n4_ n5_ n6_ n7_ n8_ n9_; clear hb hbox hg; have hnb62 := NB524_518.out; have hnc62 := NB518_524.out; have hnb63 := NB524_519.out; have hnc63 := NB519_524.out; have hcz64_0 : w61.cell? ⟨gb524, 0, none⟩ = some (.int .i64 0) := (blk_cell BK524.out 0).trans rfl; have hcz64_1 : w61.cell? ⟨gb524, 1, none⟩ = some (.int .i64 0) := (blk_cell BK524.out 1).trans rfl; have hfz64_0 := blk_frozen BK524.out 0; have hfz64_1 := blk_frozen BK524.out 1; have hcz65_0 : w61.cell? ⟨gb518, 0, none⟩ = some (.int .i64 t514) := (blk_cell BK518.out 0).trans rfl; have hcz65_1 : w61.cell? ⟨gb518, 1, none⟩ = some (.int .i64 t515) := (blk_cell BK518.out 1).trans rfl; have hfz65_0 := blk_frozen BK518.out 0; have hfz65_1 := blk_frozen BK518.out 1; have hcz66_0 : w61.cell? ⟨gb519, 0, none⟩ = some (.int .i64 t516) := (blk_cell BK519.out 0).trans rfl; have hcz66_1 : w61.cell? ⟨gb519, 1, none⟩ = some (.int .i64 t517) := (blk_cell BK519.out 1).trans rfl; have hfz66_0 := blk_frozen BK519.out 0; have hfz66_1 := blk_frozen BK519.out 1) | (go_at_call 23; (with_reducible refine (impl_PointOn.calls k3 t514 t515 t516 t517 x8_2 x9_3 false _ A46.out).mono ?_); rintro e w67 ⟨rfl, hb⟩; have n0_ := Aside0.mk (blk_below (g := gb518) (o := .cells #[.int .i64 t514, .int .i64 t515] 24 (0, 0)) (by (with_reducible repeat (first | refine blk_drewN ?_ _ | refine blk_drew ?_ | refine blk_alloc ?_ _)); refine blk_far ?_ NB518_524.out _; (with_reducible repeat (first | refine blk_drewN ?_ _ | refine blk_drew ?_ | refine blk_alloc ?_ _)); refine blk_far ?_ NB518_524.out _; (with_reducible repeat (first | refine blk_drewN ?_ _ | refine blk_drew ?_ | refine blk_alloc ?_ _)); exact BK518.out) hb); have n1_ := Aside0.mk (blk_below (g := gb519) (o := .cells #[.int .i64 t516, .int .i64 t517] 24 (0, 0)) (by (with_reducible repeat (first | refine blk_drewN ?_ _ | refine blk_drew ?_ | refine blk_alloc ?_ _)); refine blk_far ?_ NB519_524.out _; (with_reducible repeat (first | refine blk_drewN ?_ _ | refine blk_drew ?_ | refine blk_alloc ?_ _)); refine blk_far ?_ NB519_524.out _; (with_reducible repeat (first | refine blk_drewN ?_ _ | refine blk_drew ?_ | refine blk_alloc ?_ _)); exact BK519.out) hb); have n2_ := Aside0.mk (blk_below (g := gb524) (o := .cells #[.int .i64 x8_2, .int .i64 x9_3] 24 (0, 0)) (by (with_reducible repeat (first | refine blk_drewN ?_ _ | refine blk_drew ?_ | refine blk_alloc ?_ _)); refine blk_put (cs := #[.int .i64 x8_2, .int .i64 0]) ?_ 1 _ rfl; (with_reducible repeat (first | refine blk_drewN ?_ _ | refine blk_drew ?_ | refine blk_alloc ?_ _)); refine blk_put (cs := #[.int .i64 0, .int .i64 0]) ?_ 0 _ rfl; (with_reducible repeat (first | refine blk_drewN ?_ _ | refine blk_drew ?_ | refine blk_alloc ?_ _)); exact BK524.out) hb); have n3_ := Aside0.mk (below_step (by repeat (first | (with_reducible first | exact HB.out | apply below_alloc | apply pw_below_drewN | apply below_drew1 | refine below_set ?_ GE518.out | refine below_set ?_ GE519.out | refine below_set ?_ GE524.out) | exact HB.out)) hb); clear BK518; clear BK519; clear BK524; clear HB; have BK518 := n0_; have BK519 := n1_; have BK524 := n2_; have HB := n3_; clear n0_ n1_ n2_ n3_; (try clear hb); (try clear hb2); (try clear hk); (try clear hi)))
                            go_roundg k3
                            case measure => have := HJ5.out; have := HK2.out; have := HK3.out; omega
                            case rel => exact ⟨(x7_3), (wrap64 (x9_3 + 1)), (by first | rfl | (simp; done) | (simp [*]; done)), (by first | rfl | (simp; done) | (simp [*]; done)), H', ⟨by have := HJ5.out; have := HK2.out; have := HK3.out; omega⟩, ⟨by (with_reducible repeat (first | refine blk_drewN ?_ _ | refine blk_drew ?_ | refine blk_alloc ?_ _)); exact BK518.out⟩, ⟨by (with_reducible repeat (first | refine blk_drewN ?_ _ | refine blk_drew ?_ | refine blk_alloc ?_ _)); exact BK519.out⟩, ⟨by repeat (first | (with_reducible first | exact HB.out | apply below_alloc | apply pw_below_drewN | apply below_drew1 | refine below_set ?_ GE518.out | refine below_set ?_ GE519.out | refine below_set ?_ GE524.out) | exact HB.out)⟩⟩
                        · rw [if_neg c45] at H
                          have c45b0 : (!(x8_2 == t514) || (!(x9_3 == t515))) = false := by simpa using c45
                          clear c45
                          have H' := Aside0.mk H
                          clear H
                          have hnb68 := NB518_519.out
                          have hnc68 := NB519_518.out
                          have hcz69_0 : wr.cell? ⟨gb518, 0, none⟩ = some (.int .i64 t514) := (blk_cell BK518.out 0).trans rfl
                          have hcz69_1 : wr.cell? ⟨gb518, 1, none⟩ = some (.int .i64 t515) := (blk_cell BK518.out 1).trans rfl
                          have hfz69_0 := blk_frozen BK518.out 0
                          have hfz69_1 := blk_frozen BK518.out 1
                          have hcz70_0 : wr.cell? ⟨gb519, 0, none⟩ = some (.int .i64 t516) := (blk_cell BK519.out 0).trans rfl
                          have hcz70_1 : wr.cell? ⟨gb519, 1, none⟩ = some (.int .i64 t517) := (blk_cell BK519.out 1).trans rfl
                          have hfz70_0 := blk_frozen BK519.out 0
                          have hfz70_1 := blk_frozen BK519.out 1
                          go_wp2_with (first | ((with_reducible refine gate_dst (N := 10) rfl ?_); refine box_event ?hg (N := 10) ?hd (cs := #[.int .i64 0, .int .i64 0]) (t := 24) ?hr ?_; (case hd => rfl); (case hg => rfl); (case hr => first | (go_simp; done) | (go_simp; rfl)); intro gb524 hg w71 hbox hb; have n0_ := Aside0.mk (blk_below (g := gb518) (o := .cells #[.int .i64 t514, .int .i64 t515] 24 (0, 0)) (by (with_reducible repeat (first | refine blk_drewN ?_ _ | refine blk_drew ?_ | refine blk_alloc ?_ _)); exact BK518.out) hb); have n1_ := Aside0.mk (blk_below (g := gb519) (o := .cells #[.int .i64 t516, .int .i64 t517] 24 (0, 0)) (by (with_reducible repeat (first | refine blk_drewN ?_ _ | refine blk_drew ?_ | refine blk_alloc ?_ _)); exact BK519.out) hb); have n2_ := Aside0.mk (below_step (by repeat (first | (with_reducible first | exact HB.out | apply below_alloc | apply pw_below_drewN | apply below_drew1 | refine below_set ?_ GE518.out | refine below_set ?_ GE519.out) | exact HB.out)) hb); have n3_ := Aside0.mk (hbox); have n4_ := Aside0.mk ((by rw [hg]; exact (below_size (by repeat (first | (with_reducible first | exact HB.out | apply below_alloc | apply pw_below_drewN | apply below_drew1 | refine below_set ?_ GE518.out | refine below_set ?_ GE519.out) | exact HB.out))) : w.heap.size ≤ gb524)); have n5_ := Aside0.mk ((by rw [hg]; exact (below_size (by repeat (first | (with_reducible first | exact HB.out | apply below_alloc | apply pw_below_drewN | apply below_drew1 | refine below_set ?_ GE518.out | refine below_set ?_ GE519.out) | exact HB.out))) : w.heap.size ≤ gb524)); have n6_ := Aside0.mk ((by rw [hg]; exact Nat.ne_of_lt (blk_lt (g := gb518) (o := .cells #[.int .i64 t514, .int .i64 t515] 24 (0, 0)) (by (with_reducible repeat (first | refine blk_drewN ?_ _ | refine blk_drew ?_ | refine blk_alloc ?_ _)); exact BK518.out)) : gb518 ≠ gb524)); have n7_ := Aside0.mk ((by rw [hg]; exact Nat.ne_of_gt (blk_lt (g := gb518) (o := .cells #[.int .i64 t514, .int .i64 t515] 24 (0, 0)) (by (with_reducible repeat (first | refine blk_drewN ?_ _ | refine blk_drew ?_ | refine blk_alloc ?_ _)); exact BK518.out)) : gb524 ≠ gb518)); have n8_ := Aside0.mk ((by rw [hg]; exact Nat.ne_of_lt (blk_lt (g := gb519) (o := .cells #[.int .i64 t516, .int .i64 t517] 24 (0, 0)) (by (with_reducible repeat (first | refine blk_drewN ?_ _ | refine blk_drew ?_ | refine blk_alloc ?_ _)); exact BK519.out)) : gb519 ≠ gb524)); have n9_ := Aside0.mk ((by rw [hg]; exact Nat.ne_of_gt (blk_lt (g := gb519) (o := .cells #[.int .i64 t516, .int .i64 t517] 24 (0, 0)) (by (with_reducible repeat (first | refine blk_drewN ?_ _ | refine blk_drew ?_ | refine blk_alloc ?_ _)); exact BK519.out)) : gb524 ≠ gb519)); clear BK518; clear BK519; clear HB; have BK518 := n0_; have BK519 := n1_; have HB := n2_; have BK524 := n3_; have GW524 := n4_; have GE524 := n5_; have NB518_524 := n6_; have NB524_518 := n7_; have NB519_524 := n8_; have NB524_519 := n9_; clear n0_ n1_ n2_ n3_ n4_ n5_ n6_ n7_ n8_ n9_; clear hb hbox hg; have hnb72 := NB524_518.out; have hnc72 := NB518_524.out; have hnb73 := NB524_519.out; have hnc73 := NB519_524.out; have hcz74_0 : w71.cell? ⟨gb524, 0, none⟩ = some (.int .i64 0) := (blk_cell BK524.out 0).trans rfl; have hcz74_1 : w71.cell? ⟨gb524, 1, none⟩ = some (.int .i64 0) := (blk_cell BK524.out 1).trans rfl; have hfz74_0 := blk_frozen BK524.out 0; have hfz74_1 := blk_frozen BK524.out 1; have hcz75_0 : w71.cell? ⟨gb518, 0, none⟩ = some (.int .i64 t514) := (blk_cell BK518.out 0).trans rfl; have hcz75_1 : w71.cell? ⟨gb518, 1, none⟩ = some (.int .i64 t515) := (blk_cell BK518.out 1).trans rfl; have hfz75_0 := blk_frozen BK518.out 0; have hfz75_1 := blk_frozen BK518.out 1))
                          go_roundg k3
                          case measure => have := HJ5.out; have := HK2.out; have := HK3.out; omega
                          case rel => exact ⟨(x7_3), (wrap64 (x9_3 + 1)), (by first | rfl | (simp; done) | (simp [*]; done)), (by first | rfl | (simp; done) | (simp [*]; done)), H', ⟨by have := HJ5.out; have := HK2.out; have := HK3.out; omega⟩, ⟨by (with_reducible repeat (first | refine blk_drewN ?_ _ | refine blk_drew ?_ | refine blk_alloc ?_ _)); refine blk_far ?_ NB518_524.out _; (with_reducible repeat (first | refine blk_drewN ?_ _ | refine blk_drew ?_ | refine blk_alloc ?_ _)); refine blk_far ?_ NB518_524.out _; (with_reducible repeat (first | refine blk_drewN ?_ _ | refine blk_drew ?_ | refine blk_alloc ?_ _)); exact BK518.out⟩, ⟨by (with_reducible repeat (first | refine blk_drewN ?_ _ | refine blk_drew ?_ | refine blk_alloc ?_ _)); refine blk_far ?_ NB519_524.out _; (with_reducible repeat (first | refine blk_drewN ?_ _ | refine blk_drew ?_ | refine blk_alloc ?_ _)); refine blk_far ?_ NB519_524.out _; (with_reducible repeat (first | refine blk_drewN ?_ _ | refine blk_drew ?_ | refine blk_alloc ?_ _)); exact BK519.out⟩, ⟨by repeat (first | (with_reducible first | exact HB.out | apply below_alloc | apply pw_below_drewN | apply below_drew1 | refine below_set ?_ GE518.out | refine below_set ?_ GE519.out | refine below_set ?_ GE524.out) | exact HB.out)⟩⟩
                      · rw [if_neg c44] at H
                        have c44b0 : decide (x9_3 ≤ (ji43)) = false := decide_eq_false c44
                        clear c44
                        have H' := Aside0.mk H
                        clear H
                        have hnb76 := NB518_519.out
                        have hnc76 := NB519_518.out
                        have hcz77_0 : wr.cell? ⟨gb518, 0, none⟩ = some (.int .i64 t514) := (blk_cell BK518.out 0).trans rfl
                        have hcz77_1 : wr.cell? ⟨gb518, 1, none⟩ = some (.int .i64 t515) := (blk_cell BK518.out 1).trans rfl
                        have hfz77_0 := blk_frozen BK518.out 0
                        have hfz77_1 := blk_frozen BK518.out 1
                        have hcz78_0 : wr.cell? ⟨gb519, 0, none⟩ = some (.int .i64 t516) := (blk_cell BK519.out 0).trans rfl
                        have hcz78_1 : wr.cell? ⟨gb519, 1, none⟩ = some (.int .i64 t517) := (blk_cell BK519.out 1).trans rfl
                        have hfz78_0 := blk_frozen BK519.out 0
                        have hfz78_1 := blk_frozen BK519.out 1
                        go_wp2
                        go_roundg k3
                        case measure => have := HJ5.out; have := HK2.out; have := HK3.out; omega
                        case rel => exact ⟨(x7_3), (wrap64 (x8_2 + 1)), (by first | rfl | (simp; done) | (simp [*]; done)), (by first | rfl | (simp; done) | (simp [*]; done)), H', ⟨by have := HJ5.out; have := HK2.out; have := HK3.out; omega⟩, ⟨by (with_reducible repeat (first | refine blk_drewN ?_ _ | refine blk_drew ?_ | refine blk_alloc ?_ _)); exact BK518.out⟩, ⟨by (with_reducible repeat (first | refine blk_drewN ?_ _ | refine blk_drew ?_ | refine blk_alloc ?_ _)); exact BK519.out⟩, ⟨by repeat (first | (with_reducible first | exact HB.out | apply below_alloc | apply pw_below_drewN | apply below_drew1 | refine below_set ?_ GE518.out | refine below_set ?_ GE519.out) | exact HB.out)⟩⟩
                · rw [if_neg c38] at H
                  have c38b0 : decide (x8_2 ≤ (ji37)) = false := decide_eq_false c38
                  clear c38
                  obtain rfl := Option.some.inj H
                  have hnb79 := NB518_519.out
                  have hnc79 := NB519_518.out
                  have hcz80_0 : wr.cell? ⟨gb518, 0, none⟩ = some (.int .i64 t514) := (blk_cell BK518.out 0).trans rfl
                  have hcz80_1 : wr.cell? ⟨gb518, 1, none⟩ = some (.int .i64 t515) := (blk_cell BK518.out 1).trans rfl
                  have hfz80_0 := blk_frozen BK518.out 0
                  have hfz80_1 := blk_frozen BK518.out 1
                  have hcz81_0 : wr.cell? ⟨gb519, 0, none⟩ = some (.int .i64 t516) := (blk_cell BK519.out 0).trans rfl
                  have hcz81_1 : wr.cell? ⟨gb519, 1, none⟩ = some (.int .i64 t517) := (blk_cell BK519.out 1).trans rfl
                  have hfz81_0 := blk_frozen BK519.out 0
                  have hfz81_1 := blk_frozen BK519.out 1
                  go_wp2
                  go_ret
                  exact ⟨by first | rfl | (simp [errW_none, errW_some] <;> rfl) | (simp only [← hji30, ← hji37]; first | rfl | (simp [errW_none, errW_some] <;> rfl)) | (simp [*, errW_none, errW_some] <;> rfl), by repeat (first | (with_reducible first | exact HB.out | apply below_alloc | apply pw_below_drewN | apply below_drew1 | refine below_set ?_ GE518.out | refine below_set ?_ GE519.out) | exact HB.out)⟩

/-- THE ONE PURE STATEMENT of laws_FnPointGaps: yours. -/
def laws_FnPointGaps.Pure : Prop := ∀ (l0 : List Int), l0.length ≤ maxLen → l0.length * 1 ≤ 140737488351232 → (∀ x ∈ l0, (Lit.int .u8 x).wf = true) → ∃ k, laws_FnPointGaps.f k l0 = some true
theorem laws_FnPointGaps.walk (P : laws_FnPointGaps.Pure) (a0 : Option Addr) (len0 cap0 : Nat) (z0 : List Int) (w : World) (w0 : (a0 = none ∧ len0 = 0 ∧ cap0 = 0 ∧ z0 = []) ∨ ∃ x, a0 = some x ∧ len0 ≤ cap0 ∧ cap0 ≤ maxLen ∧ z0.length = cap0 ∧ (∀ i, i < z0.length → w.cell? (x.add i) = some (.int .u8 (z0.getD i 0))) ∧ ∀ n ∈ z0, (Lit.int .u8 n).wf = true) (y0 : len0 * 1 ≤ 140737488351232) :
    Calls Try.prog 12 #[.slice a0 len0 cap0] w fun e w' => e = .returned (.bool true) ∧ Below w.heap.size w w' := by
  obtain ⟨l0, rfl, hr0, hm0, hw0, hc0⟩ := ReadsInt.ofRowC w0
  obtain ⟨k, h⟩ := P l0 hm0 y0 hw0
  refine (laws_FnPointGaps.calls k _ _ l0 true w (Kd.C_of_reads (d := (0 : Int)) (h1 := fun _ => rfl) hr0) hc0 h rfl).mono ?_
  rintro e w' ⟨rfl, hd⟩
  exact ⟨rfl, hd⟩

end Go.Proofs.Yteoajklibkilmaa.Q
