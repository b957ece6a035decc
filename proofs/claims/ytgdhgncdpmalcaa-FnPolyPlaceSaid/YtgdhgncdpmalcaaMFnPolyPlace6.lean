/- Part 6 of what the proof of this law rests on: the functions of the translation as plain Lean functions with their walks, and the plain laws behind. -/
import Derived.Below
import Derived.Test.YtgdhgncdpmalcaaMFnPolyPlace5
namespace Go.Proofs.Ytgdhgncdpmalcaa.Q
open Go.RowKit Go.Proofs.YtgdhgncdpmalcaaW.PrintWords Go.Proofs.YtgdhgncdpmalcaaW.PrintLast Go.Proofs.YtgdhgncdpmalcaaW.PrintMore
attribute [local go_sem] max2_int min2_int max_two min_two max_three min_three max_four min_four   -- for this text's walks alone
set_option linter.unusedVariables false
set_option linter.unusedSimpArgs false

/-! ### spec_PolyPlace: function 26 -/
mutual
def spec_PolyPlace.j0 : Nat → List (S32) → Bool → Int → Int → Option (Int × Bool)
  | 0, _, _, _, _ => none
  | k + 1, x0, x14, x450000, x450001 => if x14 = true then (some (0, false)) else (spec_PolyPlace.l0 k x0 0 x450000 x450001)
def spec_PolyPlace.l0 : Nat → List (S32) → Int → Int → Int → Option (Int × Bool)
  | 0, _, _, _, _ => none
  | k + 1, x0, x6, x450000, x450001 => if x6 < (x0.length : Int) then (if 0 ≤ x6 then (if (x0.length : Int) = 0 then (none) else (if 0 ≤ (Int.tmod (wrap64 (x6 + 1)) (x0.length : Int)) then (if (Int.tmod (wrap64 (x6 + 1)) (x0.length : Int)) < (x0.length : Int) then ((spec_l2On.f ((rd_T32 x0 x6).f0) ((rd_T32 x0 x6).f1) ((rd_T32 x0 (Int.tmod (wrap64 (x6 + 1)) (x0.length : Int))).f0) ((rd_T32 x0 (Int.tmod (wrap64 (x6 + 1)) (x0.length : Int))).f1) x450000 x450001).bind fun t454 => (if t454 = true then (some (0, true)) else (spec_PolyPlace.l0 k x0 (wrap64 (x6 + 1)) x450000 x450001))) else (none)) else (none))) else (none)) else ((spec_l31Odd.f k x0 x450000 x450001).bind fun t455 => (if t455 = true then (some (1, true)) else (some ((-1), true))))
end
def spec_PolyPlace.f (k : Nat) (l0 : List (S32)) (a1_0 : Int) (a1_1 : Int) : Option (Int × Bool) := (spec_PolyValid.f l0).bind fun t450 => (if t450 = true then ((spec_PointValid.f a1_0 a1_1).bind fun t451 => (spec_PolyPlace.j0 k l0 (!t451) a1_0 a1_1)) else (spec_PolyPlace.j0 k l0 true a1_0 a1_1))
def spec_PolyPlace.T6 : Bool × List (List Nat × List Nat) := (true, [([], []), ([], []), ([0, 1], [0, 1]), ([2], [2]), ([], []), ([], []), ([5], [5]), ([], []), ([7], [7]), ([6, 8], [6, 8]), ([4, 9], [4, 9]), ([10], [10]), ([], []), ([3, 11, 12], [3, 11, 12])])
def spec_PolyPlace.B6 : List Nat := [0, 0, 3, 7, 0, 0, 32, 0, 128, 480, 1008, 2032, 0, 8191]
theorem spec_PolyPlace.tab6 : rtab .any (opsOf Try.f26 6) = spec_PolyPlace.T6 := by kernel_rfl
theorem spec_PolyPlace.bits6 : waitsOk spec_PolyPlace.T6.2 spec_PolyPlace.B6 = true := by kernel_rfl
set_option maxHeartbeats 8000000 in
set_option maxRecDepth 100000 in
theorem spec_PolyPlace.calls (k : Nat) (A0 : Option Addr) (c0 : Nat) (l0 : List (S32)) (a1_0 : Int) (a1_1 : Int) (r1 : Int) (r2 : Bool) (w : World) (hr0 : Kd.C k32 w A0 l0.length l0) (hc0 : l0.length ≤ c0) (h : spec_PolyPlace.f k l0 a1_0 a1_1 = some (r1, r2)) :
    Calls Try.prog 26 #[.slice A0 l0.length c0, .agg #[.int .i64 a1_0, .int .i64 a1_1]] w fun e w' => e = .returned (.tuple #[.int .i64 r1, .bool r2]) ∧ Below w.heap.size w w' := by
  have hu32 := Try.underlying32
  have HR0 := Aside0.mk hr0
  have HC0 := Aside0.mk hc0
  clear hr0 hc0
  have HB := Aside0.mk (Below.refl w.heap.size w)
  have H : ((spec_PolyValid.f l0).bind fun t450 => (if t450 = true then ((spec_PointValid.f a1_0 a1_1).bind fun t451 => (spec_PolyPlace.j0 k l0 (!t451) a1_0 a1_1)) else (spec_PolyPlace.j0 k l0 true a1_0 a1_1))) = some (r1, r2) := h
  clear h
  have HC3 := Aside0.mk H
  clear H
  go_enter Try.func26, Try.ntmps26
  go_upto_region 1 with (first | ((with_reducible refine gate_dst (N := 3) rfl ?_); refine box_event ?hg (N := 3) ?hd (cs := #[.int .i64 a1_0, .int .i64 a1_1]) (t := 32) ?hr ?_; (case hd => rfl); (case hg => rfl); (case hr => first | (go_simp; done) | (go_simp; rfl)); intro gb449 hg w4 hbox hb; have n0_ := Aside0.mk (below_step (by repeat (first | (with_reducible first | exact HB.out | apply below_alloc | apply pw_below_drewN | apply below_drew1) | exact HB.out)) hb); have n1_ := Aside0.mk (hbox); have n2_ := Aside0.mk ((by rw [hg]; exact (below_size (by repeat (first | (with_reducible first | exact HB.out | apply below_alloc | apply pw_below_drewN | apply below_drew1) | exact HB.out))) : w.heap.size ≤ gb449)); have n3_ := Aside0.mk ((by rw [hg]; exact (below_size (by repeat (first | (with_reducible first | exact HB.out | apply below_alloc | apply pw_below_drewN | apply below_drew1) | exact HB.out))) : w.heap.size ≤ gb449)); clear HB; have HB := n0_; have BK449 := n1_; have GW449 := n2_; have GE449 := n3_; clear n0_ n1_ n2_ n3_; clear hb hbox hg))
  (try simp only [Act.put, List.setIfInBounds_toArray, List.set_cons_zero, List.set_cons_succ])
  go_cut [14] (fun v14 wc => ∃ (kq : Nat) (x14_2 : Bool), v14 = .bool x14_2 ∧ Aside0 (spec_PolyPlace.j0 kq l0 x14_2 a1_0 a1_1 = some (r1, r2)) ∧ Aside0 (kq ≤ k) ∧ Aside0 (wc.heap[gb449]? = some (.cells #[.int .i64 a1_0, .int .i64 a1_1] 32 (0, 0))) ∧ Aside0 (Below w.heap.size w wc))
  case first =>
    have H := HC3.out
    clear HC3
    replace H := Option.bind_eq_some_iff.mp H
    obtain ⟨t450, A50, H⟩ := H
    replace H : (if t450 = true then ((spec_PointValid.f a1_0 a1_1).bind fun t451 => (spec_PolyPlace.j0 k l0 (!t451) a1_0 a1_1)) else (spec_PolyPlace.j0 k l0 true a1_0 a1_1)) = some (r1, r2) := H
    have A5 := Aside0.mk A50
    clear A50
    by_cases c6 : t450 = true
    · subst c6
      have H1 : ((spec_PointValid.f a1_0 a1_1).bind fun t451 => (spec_PolyPlace.j0 k l0 (!t451) a1_0 a1_1)) = some (r1, r2) := by rw [if_pos rfl] at H; exact H
      clear H
      have H := H1
      clear H1
      replace H := Option.bind_eq_some_iff.mp H
      obtain ⟨t451, A70, H⟩ := H
      replace H : (spec_PolyPlace.j0 k l0 (!t451) a1_0 a1_1) = some (r1, r2) := H
      have A7 := Aside0.mk A70
      clear A70
      have H' := Aside0.mk H
      clear H
      go_wp2_with (first | ((with_reducible refine gate_callee (f := 19) rfl ?_); refine goesL_ (some 8) rfl rfl Try.func19 (by kernel_rfl) rfl #[.slice A0 l0.length c0] rfl (by (try simp only [List.map_toArray, List.map_cons, List.map_nil]); first | done | rfl | (simp only [List.length_drop, List.length_take]; rfl)) ?_; (with_reducible refine (spec_PolyValid.calls _ _ l0 true _ ?side1 ?side2 A5.out).mono ?_); (case side1 => repeat (first | exact (Kd.C_below HR0.out HB.out) | (with_reducible refine Kd.C_alloc ?_ _) | (with_reducible refine Kd.C_drewN ?_ _) | (with_reducible refine Kd.C_drew ?_))); (case side2 => exact HC0.out); rintro e w8 ⟨rfl, hb⟩; refine ⟨_, rfl, ?_⟩; have n0_ := Aside0.mk (blk_below (g := gb449) (o := .cells #[.int .i64 a1_0, .int .i64 a1_1] 32 (0, 0)) (by (with_reducible repeat (first | refine blk_drewN ?_ _ | refine blk_drew ?_ | refine blk_alloc ?_ _)); exact BK449.out) hb); have n1_ := Aside0.mk (below_step (by repeat (first | (with_reducible first | exact HB.out | apply below_alloc | apply pw_below_drewN | apply below_drew1 | refine below_set ?_ GE449.out) | exact HB.out)) hb); clear BK449; clear HB; have BK449 := n0_; have HB := n1_; clear n0_ n1_; (try clear hb); (try clear hb2); (try clear hk); (try clear hi); have hcz9_0 : w8.cell? ⟨gb449, 0, none⟩ = some (.int .i64 a1_0) := (blk_cell BK449.out 0).trans rfl; have hcz9_1 : w8.cell? ⟨gb449, 1, none⟩ = some (.int .i64 a1_1) := (blk_cell BK449.out 1).trans rfl; have hfz9_0 := blk_frozen BK449.out 0; have hfz9_1 := blk_frozen BK449.out 1) | (go_at_call 57; (with_reducible refine (spec_PointValid.calls a1_0 a1_1 t451 _ A7.out).mono ?_); rintro e w10 ⟨rfl, hb⟩; have n0_ := Aside0.mk (blk_below (g := gb449) (o := .cells #[.int .i64 a1_0, .int .i64 a1_1] 32 (0, 0)) (by (with_reducible repeat (first | refine blk_drewN ?_ _ | refine blk_drew ?_ | refine blk_alloc ?_ _)); exact BK449.out) hb); have n1_ := Aside0.mk (below_step (by repeat (first | (with_reducible first | exact HB.out | apply below_alloc | apply pw_below_drewN | apply below_drew1 | refine below_set ?_ GE449.out) | exact HB.out)) hb); clear BK449; clear HB; have BK449 := n0_; have HB := n1_; clear n0_ n1_; (try clear hb); (try clear hb2); (try clear hk); (try clear hi)))
      go_meet
      case rel => exact ⟨_, (!t451), (by first | rfl | (simp; done) | (simp [*]; done)), H', ⟨by first | omega | exact Nat.le_refl _⟩, ⟨by (with_reducible repeat (first | refine blk_drewN ?_ _ | refine blk_drew ?_ | refine blk_alloc ?_ _)); exact BK449.out⟩, ⟨by repeat (first | (with_reducible first | exact HB.out | apply below_alloc | apply pw_below_drewN | apply below_drew1 | refine below_set ?_ GE449.out) | exact HB.out)⟩⟩
    · replace c6 := Bool.eq_false_iff.mpr c6
      subst c6
      have H1 : (spec_PolyPlace.j0 k l0 true a1_0 a1_1) = some (r1, r2) := by rw [if_neg (show ¬ (false = true) by decide)] at H; exact H
      clear H
      have H := H1
      clear H1
      have H' := Aside0.mk H
      clear H
      go_wp2_with (first | ((with_reducible refine gate_callee (f := 19) rfl ?_); refine goesL_ (some 8) rfl rfl Try.func19 (by kernel_rfl) rfl #[.slice A0 l0.length c0] rfl (by (try simp only [List.map_toArray, List.map_cons, List.map_nil]); first | done | rfl | (simp only [List.length_drop, List.length_take]; rfl)) ?_; (with_reducible refine (spec_PolyValid.calls _ _ l0 false _ ?side1 ?side2 A5.out).mono ?_); (case side1 => repeat (first | exact (Kd.C_below HR0.out HB.out) | (with_reducible refine Kd.C_alloc ?_ _) | (with_reducible refine Kd.C_drewN ?_ _) | (with_reducible refine Kd.C_drew ?_))); (case side2 => exact HC0.out); rintro e w11 ⟨rfl, hb⟩; refine ⟨_, rfl, ?_⟩; have n0_ := Aside0.mk (blk_below (g := gb449) (o := .cells #[.int .i64 a1_0, .int .i64 a1_1] 32 (0, 0)) (by (with_reducible repeat (first | refine blk_drewN ?_ _ | refine blk_drew ?_ | refine blk_alloc ?_ _)); exact BK449.out) hb); have n1_ := Aside0.mk (below_step (by repeat (first | (with_reducible first | exact HB.out | apply below_alloc | apply pw_below_drewN | apply below_drew1 | refine below_set ?_ GE449.out) | exact HB.out)) hb); clear BK449; clear HB; have BK449 := n0_; have HB := n1_; clear n0_ n1_; (try clear hb); (try clear hb2); (try clear hk); (try clear hi)))
      go_meet
      case rel => exact ⟨_, (true), (by first | rfl | (simp; done) | (simp [*]; done)), H', ⟨by first | omega | exact Nat.le_refl _⟩, ⟨by (with_reducible repeat (first | refine blk_drewN ?_ _ | refine blk_drew ?_ | refine blk_alloc ?_ _)); exact BK449.out⟩, ⟨by repeat (first | (with_reducible first | exact HB.out | apply below_alloc | apply pw_below_drewN | apply below_drew1 | refine below_set ?_ GE449.out) | exact HB.out)⟩⟩
  case rest =>
    clear HC3
    try clear c1
    try clear c2
    try clear p2
    try clear c6
    try clear hcz9_0
    try clear hcz9_1
    try clear hfz9_0
    try clear hfz9_1
    obtain ⟨kq, x14_2, rfl, HA, HJ2, BK449, HB⟩ := hcut
    cases kq with
    | zero => exact absurd HA.out (by simp [spec_PolyPlace.j0])
    | succ kj2 =>
      have H := HA.out
      clear HA
      simp only [spec_PolyPlace.j0] at H
      by_cases c12 : x14_2 = true
      · subst c12
        have H1 : (some (0, false)) = some (r1, r2) := by rw [if_pos rfl] at H; exact H
        clear H
        have H := H1
        clear H1
        simp only [Option.some.injEq, Prod.mk.injEq] at H
        obtain ⟨rfl, rfl⟩ := H
        go_wp2
        go_ret2
        exact ⟨by first | rfl | (simp [errW_none, errW_some] <;> rfl) | (simp [*, errW_none, errW_some] <;> rfl), by repeat (first | (with_reducible first | exact HB.out | apply below_alloc | apply pw_below_drewN | apply below_drew1 | refine below_set ?_ GE449.out) | exact HB.out)⟩
      · replace c12 := Bool.eq_false_iff.mpr c12
        subst c12
        have H1 : (spec_PolyPlace.l0 kj2 l0 0 a1_0 a1_1) = some (r1, r2) := by rw [if_neg (show ¬ (false = true) by decide)] at H; exact H
        clear H
        have H := H1
        clear H1
        have H' := Aside0.mk H
        clear H
        go_wp2
        go_loopg [6] kj2 (fun kq v6 w' => ∃ (x6_2 : Int), v6 = .int .i64 x6_2 ∧ Aside0 (spec_PolyPlace.l0 kq l0 x6_2 a1_0 a1_1 = some (r1, r2)) ∧ Aside0 (kq ≤ kj2) ∧ Aside0 (w'.heap[gb449]? = some (.cells #[.int .i64 a1_0, .int .i64 a1_1] 32 (0, 0))) ∧ Aside0 (Below w.heap.size w w'))
        case atStart => exact ⟨(0), (by first | rfl | (simp; done) | (simp [*]; done)), H', ⟨Nat.le_refl _⟩, ⟨by (with_reducible repeat (first | refine blk_drewN ?_ _ | refine blk_drew ?_ | refine blk_alloc ?_ _)); exact BK449.out⟩, ⟨by repeat (first | (with_reducible first | exact HB.out | apply below_alloc | apply pw_below_drewN | apply below_drew1 | refine below_set ?_ GE449.out) | exact HB.out)⟩⟩
        case round =>
          clear H'
          try clear c1
          try clear c2
          try clear p2
          try clear c6
          try clear c12
          try clear hcz9_0
          try clear hcz9_1
          try clear hfz9_0
          try clear hfz9_1
          try clear p2
          obtain ⟨x6_2, rfl, HA, HK2, BK449, HB⟩ := hrel
          cases gk with
          | zero => exact absurd HA.out (by simp [spec_PolyPlace.l0])
          | succ k2 =>
            have H := HA.out
            clear HA
            simp only [spec_PolyPlace.l0] at H
            by_cases c13 : x6_2 < (l0.length : Int)
            · rw [if_pos c13] at H
              have c13b0 : decide (x6_2 < (l0.length : Int)) = true := decide_eq_true c13
              clear c13
              by_cases c14 : 0 ≤ x6_2
              · rw [if_pos c14] at H
                have c14b0 : decide (0 ≤ x6_2) = true := decide_eq_true c14
                clear c14
                by_cases c15 : (l0.length : Int) = 0
                · rw [if_pos c15] at H
                  exact absurd H (by simp)
                · rw [if_neg c15] at H
                  have c15b0 : ((l0.length : Int) == 0) = false := beq_eq_false_iff_ne.mpr c15
                  have c15b1 : ((l0.length : Int) != 0) = true := bne_iff_ne.mpr c15
                  have c15b2 : ¬ (l0 = []) := fun h_ => c15 (by rw [h_]; rfl)
                  obtain ⟨ji16, hji16⟩ : ∃ j_ : Int, (Int.tmod (wrap64 (x6_2 + 1)) (l0.length : Int)) = j_ := ⟨_, rfl⟩
                  replace H : (if 0 ≤ (ji16) then (if (ji16) < (l0.length : Int) then ((spec_l2On.f ((rd_T32 l0 x6_2).f0) ((rd_T32 l0 x6_2).f1) ((rd_T32 l0 (ji16)).f0) ((rd_T32 l0 (ji16)).f1) a1_0 a1_1).bind fun t454 => (if t454 = true then (some (0, true)) else (spec_PolyPlace.l0 k2 l0 (wrap64 (x6_2 + 1)) a1_0 a1_1))) else (none)) else (none)) = some (r1, r2) := by first | (rw [hji16] at H; exact H) | (simp only [hji16] at H ⊢; exact H)
                  by_cases c17 : 0 ≤ (ji16)
                  · rw [if_pos c17] at H
                    have c17b0 : decide (0 ≤ (ji16)) = true := decide_eq_true c17
                    clear c17
                    by_cases c18 : (ji16) < (l0.length : Int)
                    · rw [if_pos c18] at H
                      have c18b0 : decide ((ji16) < (l0.length : Int)) = true := decide_eq_true c18
                      clear c18
                      replace H := Option.bind_eq_some_iff.mp H
                      obtain ⟨t454, A190, H⟩ := H
                      replace H : (if t454 = true then (some (0, true)) else (spec_PolyPlace.l0 k2 l0 (wrap64 (x6_2 + 1)) a1_0 a1_1)) = some (r1, r2) := H
                      have A19 := Aside0.mk A190
                      clear A190
                      by_cases c20 : t454 = true
                      · subst c20
                        have H1 : (some (0, true)) = some (r1, r2) := by rw [if_pos rfl] at H; exact H
                        clear H
                        have H := H1
                        clear H1
                        simp only [Option.some.injEq, Prod.mk.injEq] at H
                        obtain ⟨rfl, rfl⟩ := H
                        try go_wp2
                        have n0_ := Aside0.mk (blk_drew BK449.out)
                        have n1_ := Aside0.mk (below_drew1 HB.out)
                        clear BK449
                        clear HB
                        have BK449 := n0_
                        have HB := n1_
                        clear n0_ n1_
                        have p452 : 0 ≤ (x6_2 : Int) := of_decide_eq_true (by first | (with_reducible assumption) | assumption)
                        have q452 : x6_2 < (l0.length : Int) := of_decide_eq_true (by first | (with_reducible assumption) | assumption)
                        obtain ⟨ad452, e452, hx452_0, hx452_1⟩ := at_T32 HR0.out x6_2 p452 q452
                        have hw452_1 := hx452_1
                        have hw452_0 := hx452_0
                        cases e452
                        replace hx452_0 := (HB.out.cell (World.block_lt_of_cell? w _ hx452_0)).trans hx452_0
                        replace hx452_1 := (HB.out.cell (World.block_lt_of_cell? w _ hx452_1)).trans hx452_1
                        replace p452 := eq_true p452
                        replace q452 := eq_true q452
                        have p453 : 0 ≤ ((ji16) : Int) := of_decide_eq_true (by first | (with_reducible assumption) | assumption)
                        have q453 : (ji16) < (l0.length : Int) := of_decide_eq_true (by first | (with_reducible assumption) | assumption)
                        obtain ⟨ad453, e453, hx453_0, hx453_1⟩ := at_T32 HR0.out (ji16) p453 q453
                        have hw453_1 := hx453_1
                        have hw453_0 := hx453_0
                        obtain rfl : ad452 = ad453 := (by injection e453)
                        replace hx453_0 := (HB.out.cell (World.block_lt_of_cell? w _ hx453_0)).trans hx453_0
                        replace hx453_1 := (HB.out.cell (World.block_lt_of_cell? w _ hx453_1)).trans hx453_1
                        replace p453 := eq_true p453
                        replace q453 := eq_true q453
                        refine start_ (n := 14) (S := fun w' => w'.cell? ⟨gb449, 0, none⟩ = some (.int .i64 a1_0) ∧ w'.cell? ⟨gb449, 1, none⟩ = some (.int .i64 a1_1) ∧ w'.cell? (ad452.add ((x6_2).toNat * 2)) = some (.int .i64 ((rd_T32 l0 x6_2).f0)) ∧ w'.cell? ⟨(ad452.add ((x6_2).toNat * 2)).block, (ad452.add ((x6_2).toNat * 2)).off + 1, none⟩ = some (.int .i64 ((rd_T32 l0 x6_2).f1)) ∧ w'.cell? (ad452.add (((ji16)).toNat * 2)) = some (.int .i64 ((rd_T32 l0 (ji16)).f0)) ∧ w'.cell? ⟨(ad452.add (((ji16)).toNat * 2)).block, (ad452.add (((ji16)).toNat * 2)).off + 1, none⟩ = some (.int .i64 ((rd_T32 l0 (ji16)).f1))) (ds := []) #[false, false, false, false, false, false, false, false, false, false, false, false, false, false] (by kernel_rfl) rfl rfl ⟨(blk_cell BK449.out 0).trans rfl, (blk_cell BK449.out 1).trans rfl, ((HB.out.cell (World.block_lt_of_cell? w _ hw452_0)).trans hw452_0), ((HB.out.cell (World.block_lt_of_cell? w _ hw452_1)).trans hw452_1), ((HB.out.cell (World.block_lt_of_cell? w _ hw453_0)).trans hw453_0), ((HB.out.cell (World.block_lt_of_cell? w _ hw453_1)).trans hw453_1)⟩ (fun hHeld => ?_); refine with_tabW spec_PolyPlace.tab6 spec_PolyPlace.bits6 (fun HT_ HW_ => ?_)
                        generalize wr.drew = w21 at BK449 HB hx452_0 hx452_1 hx453_0 hx453_1 hHeld ⊢
                        refine pure_ (i := 0) (N := some 21) (v := ?_) (a' := ?_) #[true, false, false, false, false, false, false, false, false, false, false, false, false, false] rfl rfl (any_of HT_.out (by kernel_rfl)) (fun _ _ _ h => h) (Or.inl ⟨by rfl, ?_⟩) ?_ ?_
                        rotate_left
                        · intro w'
                          go_simp
                          with_reducible rfl
                        rotate_left
                        · simp only [Act.put, List.setIfInBounds_toArray, List.set_cons_zero, List.set_cons_succ, i64_w, i32_w]
                          rfl
                        refine pure_ (i := 1) (N := some 22) (v := ?_) (a' := ?_) #[true, true, false, false, false, false, false, false, false, false, false, false, false, false] rfl rfl (any_of HT_.out (by kernel_rfl)) (fun _ _ _ h => h) (Or.inl ⟨by rfl, ?_⟩) ?_ ?_
                        rotate_left
                        · intro w'
                          go_simp
                          with_reducible rfl
                        rotate_left
                        · simp only [Act.put, List.setIfInBounds_toArray, List.set_cons_zero, List.set_cons_succ, i64_w, i32_w]
                          rfl
                        refine pure_ (i := 2) (N := some 23) (v := ?_) (a' := ?_) #[true, true, true, false, false, false, false, false, false, false, false, false, false, false] rfl rfl (any_of HT_.out (by kernel_rfl)) (fun _ _ _ h => h) (Or.inl ⟨by rfl, ?_⟩) ?_ ?_
                        rotate_left
                        · intro w'
                          go_simp
                          with_reducible rfl
                        rotate_left
                        · simp only [Act.put, List.setIfInBounds_toArray, List.set_cons_zero, List.set_cons_succ, i64_w, i32_w]
                          rfl
                        refine pure_ (i := 4) (N := some 25) (v := ?_) (a' := ?_) #[true, true, true, false, true, false, false, false, false, false, false, false, false, false] rfl rfl (any_of HT_.out (by kernel_rfl)) (fun _ _ _ h => h) (Or.inl ⟨by rfl, ?_⟩) ?_ ?_
                        rotate_left
                        · intro w'
                          go_simp
                          with_reducible rfl
                        rotate_left
                        · simp only [Act.put, List.setIfInBounds_toArray, List.set_cons_zero, List.set_cons_succ, i64_w, i32_w]
                          rfl
                        refine pure_ (i := 5) (N := some 26) (v := ?_) (a' := ?_) #[true, true, true, false, true, true, false, false, false, false, false, false, false, false] rfl rfl (any_of HT_.out (by kernel_rfl)) (fun _ _ _ h => h) (Or.inl ⟨by rfl, ?_⟩) ?_ ?_
                        rotate_left
                        · intro w'
                          go_simp
                          with_reducible rfl
                        rotate_left
                        · simp only [Act.put, List.setIfInBounds_toArray, List.set_cons_zero, List.set_cons_succ, i64_w, i32_w]
                          rfl
                        refine pure_ (i := 6) (N := some 27) (v := ?_) (a' := ?_) #[true, true, true, false, true, true, true, false, false, false, false, false, false, false] rfl rfl (any_of HT_.out (by kernel_rfl)) (fun _ _ _ h => h) (Or.inl ⟨by rfl, ?_⟩) ?_ ?_
                        rotate_left
                        · intro w'
                          go_simp
                          with_reducible rfl
                        rotate_left
                        · simp only [Act.put, List.setIfInBounds_toArray, List.set_cons_zero, List.set_cons_succ, i64_w, i32_w]
                          rfl
                        refine pure_ (i := 7) (N := some 28) (v := ?_) (a' := ?_) #[true, true, true, false, true, true, true, true, false, false, false, false, false, false] rfl rfl (any_of HT_.out (by kernel_rfl)) (fun _ _ _ h => h) (Or.inl ⟨by rfl, ?_⟩) ?_ ?_
                        rotate_left
                        · intro w'
                          go_simp
                          with_reducible rfl
                        rotate_left
                        · simp only [Act.put, List.setIfInBounds_toArray, List.set_cons_zero, List.set_cons_succ, i64_w, i32_w]
                          rfl
                        refine pure_ (i := 8) (N := some 29) (v := ?_) (a' := ?_) #[true, true, true, false, true, true, true, true, true, false, false, false, false, false] rfl rfl (any_of HT_.out (by kernel_rfl)) (fun _ _ _ h => h) (Or.inl ⟨by rfl, ?_⟩) ?_ ?_
                        rotate_left
                        · intro w'
                          go_simp
                          with_reducible rfl
                        rotate_left
                        · simp only [Act.put, List.setIfInBounds_toArray, List.set_cons_zero, List.set_cons_succ, i64_w, i32_w]
                          rfl
                        refine pure_ (i := 9) (N := some 30) (v := ?_) (a' := ?_) #[true, true, true, false, true, true, true, true, true, true, false, false, false, false] rfl rfl (any_of HT_.out (by kernel_rfl)) (fun _ _ _ h => h) (Or.inl ⟨by rfl, ?_⟩) ?_ ?_
                        rotate_left
                        · intro w'
                          go_simp
                          with_reducible rfl
                        rotate_left
                        · simp only [Act.put, List.setIfInBounds_toArray, List.set_cons_zero, List.set_cons_succ, i64_w, i32_w]
                          rfl
                        refine pure_ (i := 10) (N := some 31) (v := ?_) (a' := ?_) #[true, true, true, false, true, true, true, true, true, true, true, false, false, false] rfl rfl (any_of HT_.out (by kernel_rfl)) (fun _ _ _ h => h) (Or.inl ⟨by rfl, ?_⟩) ?_ ?_
                        rotate_left
                        · intro w'
                          go_simp
                          with_reducible rfl
                        rotate_left
                        · simp only [Act.put, List.setIfInBounds_toArray, List.set_cons_zero, List.set_cons_succ, i64_w, i32_w]
                          rfl
                        refine take_ (i := 3) (N := some 24) (v := ?_) (a' := ?_) #[true, true, true, true, true, true, true, true, true, true, true, false, false, false] rfl rfl (take_ofW HT_.out HW_.out (by kernel_rfl)) (fun _ _ _ h => h) (Or.inl ⟨by rfl, ?_⟩) hHeld ?_ ?_
                        rotate_left
                        · rintro w' ⟨s0, s1, s2, s3, s4, s5⟩
                          go_simp
                          with_reducible rfl
                        rotate_left
                        · simp only [Act.put, List.setIfInBounds_toArray, List.set_cons_zero, List.set_cons_succ, i64_w, i32_w]
                          rfl
                        refine take_ (i := 11) (N := some 32) (v := ?_) (a' := ?_) #[true, true, true, true, true, true, true, true, true, true, true, true, false, false] rfl rfl (take_ofW HT_.out HW_.out (by kernel_rfl)) (fun _ _ _ h => h) (Or.inl ⟨by rfl, ?_⟩) hHeld ?_ ?_
                        rotate_left
                        · rintro w' ⟨s0, s1, s2, s3, s4, s5⟩
                          go_simp
                          with_reducible rfl
                        rotate_left
                        · simp only [Act.put, List.setIfInBounds_toArray, List.set_cons_zero, List.set_cons_succ, i64_w, i32_w]
                          rfl
                        refine take_ (i := 12) (N := some 33) (v := ?_) (a' := ?_) #[true, true, true, true, true, true, true, true, true, true, true, true, true, false] rfl rfl (take_ofW HT_.out HW_.out (by kernel_rfl)) (fun _ _ _ h => h) (Or.inl ⟨by rfl, ?_⟩) hHeld ?_ ?_
                        rotate_left
                        · rintro w' ⟨s0, s1, s2, s3, s4, s5⟩
                          go_simp
                          with_reducible rfl
                        rotate_left
                        · simp only [Act.put, List.setIfInBounds_toArray, List.set_cons_zero, List.set_cons_succ, i64_w, i32_w]
                          rfl
                        refine one_ (i := 13) (N := some 34) #[true, true, true, true, true, true, true, true, true, true, true, true, true, true] rfl rfl (one_of HT_.out (by kernel_rfl)) (by decide) (fun K hK => ?_)
                        refine goes_ Try.func50 (by kernel_rfl) rfl #[.agg #[.int .i64 ((rd_T32 l0 x6_2).f0), .int .i64 ((rd_T32 l0 x6_2).f1)], .agg #[.int .i64 ((rd_T32 l0 (ji16)).f0), .int .i64 ((rd_T32 l0 (ji16)).f1)], .agg #[.int .i64 a1_0, .int .i64 a1_1]] (by rfl) rfl rfl (by (try simp only [List.map_toArray, List.map_cons, List.map_nil]); first | done | (simp only [hji16]; rfl) | rfl | (simp only [List.length_drop, List.length_take]; rfl)) ?_
                        with_reducible refine (spec_l2On.calls ((rd_T32 l0 x6_2).f0) ((rd_T32 l0 x6_2).f1) ((rd_T32 l0 (ji16)).f0) ((rd_T32 l0 (ji16)).f1) a1_0 a1_1 true _ A19.out).mono ?_
                        rintro e w22 ⟨rfl, hb⟩
                        refine ⟨_, rfl, ?_⟩
                        have n0_ := Aside0.mk (blk_below (g := gb449) (o := .cells #[.int .i64 a1_0, .int .i64 a1_1] 32 (0, 0)) (by (with_reducible repeat (first | refine blk_drewN ?_ _ | refine blk_drew ?_ | refine blk_alloc ?_ _)); exact BK449.out) hb)
                        have n1_ := Aside0.mk (below_step (by repeat (first | (with_reducible first | exact HB.out | apply below_alloc | apply pw_below_drewN | apply below_drew1 | refine below_set ?_ GE449.out) | exact HB.out)) hb)
                        clear BK449
                        clear HB
                        have BK449 := n0_
                        have HB := n1_
                        clear n0_ n1_
                        (try clear hb)
                        (try clear hb2)
                        (try clear hk)
                        (try clear hi)
                        refine hK.out _ _ ⟨(blk_cell BK449.out 0).trans rfl, (blk_cell BK449.out 1).trans rfl, ((HB.out.cell (World.block_lt_of_cell? w _ hw452_0)).trans hw452_0), ((HB.out.cell (World.block_lt_of_cell? w _ hw452_1)).trans hw452_1), ((HB.out.cell (World.block_lt_of_cell? w _ hw453_0)).trans hw453_0), ((HB.out.cell (World.block_lt_of_cell? w _ hw453_1)).trans hw453_1)⟩ (fun hHeld => ?_)
                        clear hK K
                        refine norm_ (a' := ?_) ?_ ?_
                        rotate_left
                        · show Act.put _ (some 34) _ = _
                          simp only [Act.put, List.setIfInBounds_toArray, List.set_cons_zero, List.set_cons_succ, i64_w, i32_w]
                          rfl
                        refine done_ (done_of HT_.out (by kernel_rfl)) ?_
                        try go_wp2
                        go_ret2
                        exact ⟨by first | rfl | (simp [errW_none, errW_some] <;> rfl) | (simp only [← hji16]; first | rfl | (simp [errW_none, errW_some] <;> rfl)) | (simp [*, errW_none, errW_some] <;> rfl), by repeat (first | (with_reducible first | exact HB.out | apply below_alloc | apply pw_below_drewN | apply below_drew1 | refine below_set ?_ GE449.out) | exact HB.out)⟩
                      · replace c20 := Bool.eq_false_iff.mpr c20
                        subst c20
                        have H1 : (spec_PolyPlace.l0 k2 l0 (wrap64 (x6_2 + 1)) a1_0 a1_1) = some (r1, r2) := by rw [if_neg (show ¬ (false = true) by decide)] at H; exact H
                        clear H
                        have H := H1
                        clear H1
                        have H' := Aside0.mk H
                        clear H
                        try go_wp2
                        have n0_ := Aside0.mk (blk_drew BK449.out)
                        have n1_ := Aside0.mk (below_drew1 HB.out)
                        clear BK449
                        clear HB
                        have BK449 := n0_
                        have HB := n1_
                        clear n0_ n1_
                        have p452 : 0 ≤ (x6_2 : Int) := of_decide_eq_true (by first | (with_reducible assumption) | assumption)
                        have q452 : x6_2 < (l0.length : Int) := of_decide_eq_true (by first | (with_reducible assumption) | assumption)
                        obtain ⟨ad452, e452, hx452_0, hx452_1⟩ := at_T32 HR0.out x6_2 p452 q452
                        have hw452_1 := hx452_1
                        have hw452_0 := hx452_0
                        cases e452
                        replace hx452_0 := (HB.out.cell (World.block_lt_of_cell? w _ hx452_0)).trans hx452_0
                        replace hx452_1 := (HB.out.cell (World.block_lt_of_cell? w _ hx452_1)).trans hx452_1
                        replace p452 := eq_true p452
                        replace q452 := eq_true q452
                        have p453 : 0 ≤ ((ji16) : Int) := of_decide_eq_true (by first | (with_reducible assumption) | assumption)
                        have q453 : (ji16) < (l0.length : Int) := of_decide_eq_true (by first | (with_reducible assumption) | assumption)
                        obtain ⟨ad453, e453, hx453_0, hx453_1⟩ := at_T32 HR0.out (ji16) p453 q453
                        have hw453_1 := hx453_1
                        have hw453_0 := hx453_0
                        obtain rfl : ad452 = ad453 := (by injection e453)
                        replace hx453_0 := (HB.out.cell (World.block_lt_of_cell? w _ hx453_0)).trans hx453_0
                        replace hx453_1 := (HB.out.cell (World.block_lt_of_cell? w _ hx453_1)).trans hx453_1
                        replace p453 := eq_true p453
                        replace q453 := eq_true q453
                        refine start_ (n := 14) (S := fun w' => w'.cell? ⟨gb449, 0, none⟩ = some (.int .i64 a1_0) ∧ w'.cell? ⟨gb449, 1, none⟩ = some (.int .i64 a1_1) ∧ w'.cell? (ad452.add ((x6_2).toNat * 2)) = some (.int .i64 ((rd_T32 l0 x6_2).f0)) ∧ w'.cell? ⟨(ad452.add ((x6_2).toNat * 2)).block, (ad452.add ((x6_2).toNat * 2)).off + 1, none⟩ = some (.int .i64 ((rd_T32 l0 x6_2).f1)) ∧ w'.cell? (ad452.add (((ji16)).toNat * 2)) = some (.int .i64 ((rd_T32 l0 (ji16)).f0)) ∧ w'.cell? ⟨(ad452.add (((ji16)).toNat * 2)).block, (ad452.add (((ji16)).toNat * 2)).off + 1, none⟩ = some (.int .i64 ((rd_T32 l0 (ji16)).f1))) (ds := []) #[false, false, false, false, false, false, false, false, false, false, false, false, false, false] (by kernel_rfl) rfl rfl ⟨(blk_cell BK449.out 0).trans rfl, (blk_cell BK449.out 1).trans rfl, ((HB.out.cell (World.block_lt_of_cell? w _ hw452_0)).trans hw452_0), ((HB.out.cell (World.block_lt_of_cell? w _ hw452_1)).trans hw452_1), ((HB.out.cell (World.block_lt_of_cell? w _ hw453_0)).trans hw453_0), ((HB.out.cell (World.block_lt_of_cell? w _ hw453_1)).trans hw453_1)⟩ (fun hHeld => ?_); refine with_tabW spec_PolyPlace.tab6 spec_PolyPlace.bits6 (fun HT_ HW_ => ?_)
                        generalize wr.drew = w23 at BK449 HB hx452_0 hx452_1 hx453_0 hx453_1 hHeld ⊢
                        refine pure_ (i := 0) (N := some 21) (v := ?_) (a' := ?_) #[true, false, false, false, false, false, false, false, false, false, false, false, false, false] rfl rfl (any_of HT_.out (by kernel_rfl)) (fun _ _ _ h => h) (Or.inl ⟨by rfl, ?_⟩) ?_ ?_
                        rotate_left
                        · intro w'
                          go_simp
                          with_reducible rfl
                        rotate_left
                        · simp only [Act.put, List.setIfInBounds_toArray, List.set_cons_zero, List.set_cons_succ, i64_w, i32_w]
                          rfl
                        refine pure_ (i := 1) (N := some 22) (v := ?_) (a' := ?_) #[true, true, false, false, false, false, false, false, false, false, false, false, false, false] rfl rfl (any_of HT_.out (by kernel_rfl)) (fun _ _ _ h => h) (Or.inl ⟨by rfl, ?_⟩) ?_ ?_
                        rotate_left
                        · intro w'
                          go_simp
                          with_reducible rfl
                        rotate_left
                        · simp only [Act.put, List.setIfInBounds_toArray, List.set_cons_zero, List.set_cons_succ, i64_w, i32_w]
                          rfl
                        refine pure_ (i := 2) (N := some 23) (v := ?_) (a' := ?_) #[true, true, true, false, false, false, false, false, false, false, false, false, false, false] rfl rfl (any_of HT_.out (by kernel_rfl)) (fun _ _ _ h => h) (Or.inl ⟨by rfl, ?_⟩) ?_ ?_
                        rotate_left
                        · intro w'
                          go_simp
                          with_reducible rfl
                        rotate_left
                        · simp only [Act.put, List.setIfInBounds_toArray, List.set_cons_zero, List.set_cons_succ, i64_w, i32_w]
                          rfl
                        refine pure_ (i := 4) (N := some 25) (v := ?_) (a' := ?_) #[true, true, true, false, true, false, false, false, false, false, false, false, false, false] rfl rfl (any_of HT_.out (by kernel_rfl)) (fun _ _ _ h => h) (Or.inl ⟨by rfl, ?_⟩) ?_ ?_
                        rotate_left
                        · intro w'
                          go_simp
                          with_reducible rfl
                        rotate_left
                        · simp only [Act.put, List.setIfInBounds_toArray, List.set_cons_zero, List.set_cons_succ, i64_w, i32_w]
                          rfl
                        refine pure_ (i := 5) (N := some 26) (v := ?_) (a' := ?_) #[true, true, true, false, true, true, false, false, false, false, false, false, false, false] rfl rfl (any_of HT_.out (by kernel_rfl)) (fun _ _ _ h => h) (Or.inl ⟨by rfl, ?_⟩) ?_ ?_
                        rotate_left
                        · intro w'
                          go_simp
                          with_reducible rfl
                        rotate_left
                        · simp only [Act.put, List.setIfInBounds_toArray, List.set_cons_zero, List.set_cons_succ, i64_w, i32_w]
                          rfl
                        refine pure_ (i := 6) (N := some 27) (v := ?_) (a' := ?_) #[true, true, true, false, true, true, true, false, false, false, false, false, false, false] rfl rfl (any_of HT_.out (by kernel_rfl)) (fun _ _ _ h => h) (Or.inl ⟨by rfl, ?_⟩) ?_ ?_
                        rotate_left
                        · intro w'
                          go_simp
                          with_reducible rfl
                        rotate_left
                        · simp only [Act.put, List.setIfInBounds_toArray, List.set_cons_zero, List.set_cons_succ, i64_w, i32_w]
                          rfl
                        refine pure_ (i := 7) (N := some 28) (v := ?_) (a' := ?_) #[true, true, true, false, true, true, true, true, false, false, false, false, false, false] rfl rfl (any_of HT_.out (by kernel_rfl)) (fun _ _ _ h => h) (Or.inl ⟨by rfl, ?_⟩) ?_ ?_
                        rotate_left
                        · intro w'
                          go_simp
                          with_reducible rfl
                        rotate_left
                        · simp only [Act.put, List.setIfInBounds_toArray, List.set_cons_zero, List.set_cons_succ, i64_w, i32_w]
                          rfl
                        refine pure_ (i := 8) (N := some 29) (v := ?_) (a' := ?_) #[true, true, true, false, true, true, true, true, true, false, false, false, false, false] rfl rfl (any_of HT_.out (by kernel_rfl)) (fun _ _ _ h => h) (Or.inl ⟨by rfl, ?_⟩) ?_ ?_
                        rotate_left
                        · intro w'
                          go_simp
                          with_reducible rfl
                        rotate_left
                        · simp only [Act.put, List.setIfInBounds_toArray, List.set_cons_zero, List.set_cons_succ, i64_w, i32_w]
                          rfl
                        refine pure_ (i := 9) (N := some 30) (v := ?_) (a' := ?_) #[true, true, true, false, true, true, true, true, true, true, false, false, false, false] rfl rfl (any_of HT_.out (by kernel_rfl)) (fun _ _ _ h => h) (Or.inl ⟨by rfl, ?_⟩) ?_ ?_
                        rotate_left
                        · intro w'
                          go_simp
                          with_reducible rfl
                        rotate_left
                        · simp only [Act.put, List.setIfInBounds_toArray, List.set_cons_zero, List.set_cons_succ, i64_w, i32_w]
                          rfl
                        refine pure_ (i := 10) (N := some 31) (v := ?_) (a' := ?_) #[true, true, true, false, true, true, true, true, true, true, true, false, false, false] rfl rfl (any_of HT_.out (by kernel_rfl)) (fun _ _ _ h => h) (Or.inl ⟨by rfl, ?_⟩) ?_ ?_
                        rotate_left
                        · intro w'
                          go_simp
                          with_reducible rfl
                        rotate_left
                        · simp only [Act.put, List.setIfInBounds_toArray, List.set_cons_zero, List.set_cons_succ, i64_w, i32_w]
                          rfl
                        refine take_ (i := 3) (N := some 24) (v := ?_) (a' := ?_) #[true, true, true, true, true, true, true, true, true, true, true, false, false, false] rfl rfl (take_ofW HT_.out HW_.out (by kernel_rfl)) (fun _ _ _ h => h) (Or.inl ⟨by rfl, ?_⟩) hHeld ?_ ?_
                        rotate_left
                        · rintro w' ⟨s0, s1, s2, s3, s4, s5⟩
                          go_simp
                          with_reducible rfl
                        rotate_left
                        · simp only [Act.put, List.setIfInBounds_toArray, List.set_cons_zero, List.set_cons_succ, i64_w, i32_w]
                          rfl
                        refine take_ (i := 11) (N := some 32) (v := ?_) (a' := ?_) #[true, true, true, true, true, true, true, true, true, true, true, true, false, false] rfl rfl (take_ofW HT_.out HW_.out (by kernel_rfl)) (fun _ _ _ h => h) (Or.inl ⟨by rfl, ?_⟩) hHeld ?_ ?_
                        rotate_left
                        · rintro w' ⟨s0, s1, s2, s3, s4, s5⟩
                          go_simp
                          with_reducible rfl
                        rotate_left
                        · simp only [Act.put, List.setIfInBounds_toArray, List.set_cons_zero, List.set_cons_succ, i64_w, i32_w]
                          rfl
                        refine take_ (i := 12) (N := some 33) (v := ?_) (a' := ?_) #[true, true, true, true, true, true, true, true, true, true, true, true, true, false] rfl rfl (take_ofW HT_.out HW_.out (by kernel_rfl)) (fun _ _ _ h => h) (Or.inl ⟨by rfl, ?_⟩) hHeld ?_ ?_
                        rotate_left
                        · rintro w' ⟨s0, s1, s2, s3, s4, s5⟩
                          go_simp
                          with_reducible rfl
                        rotate_left
                        · simp only [Act.put, List.setIfInBounds_toArray, List.set_cons_zero, List.set_cons_succ, i64_w, i32_w]
                          rfl
                        refine one_ (i := 13) (N := some 34) #[true, true, true, true, true, true, true, true, true, true, true, true, true, true] rfl rfl (one_of HT_.out (by kernel_rfl)) (by decide) (fun K hK => ?_)
                        refine goes_ Try.func50 (by kernel_rfl) rfl #[.agg #[.int .i64 ((rd_T32 l0 x6_2).f0), .int .i64 ((rd_T32 l0 x6_2).f1)], .agg #[.int .i64 ((rd_T32 l0 (ji16)).f0), .int .i64 ((rd_T32 l0 (ji16)).f1)], .agg #[.int .i64 a1_0, .int .i64 a1_1]] (by rfl) rfl rfl (by (try simp only [List.map_toArray, List.map_cons, List.map_nil]); first | done | (simp only [hji16]; rfl) | rfl | (simp only [List.length_drop, List.length_take]; rfl)) ?_
                        with_reducible refine (spec_l2On.calls ((rd_T32 l0 x6_2).f0) ((rd_T32 l0 x6_2).f1) ((rd_T32 l0 (ji16)).f0) ((rd_T32 l0 (ji16)).f1) a1_0 a1_1 false _ A19.out).mono ?_
                        rintro e w24 ⟨rfl, hb⟩
                        refine ⟨_, rfl, ?_⟩
                        have n0_ := Aside0.mk (blk_below (g := gb449) (o := .cells #[.int .i64 a1_0, .int .i64 a1_1] 32 (0, 0)) (by (with_reducible repeat (first | refine blk_drewN ?_ _ | refine blk_drew ?_ | refine blk_alloc ?_ _)); exact BK449.out) hb)
                        have n1_ := Aside0.mk (below_step (by repeat (first | (with_reducible first | exact HB.out | apply below_alloc | apply pw_below_drewN | apply below_drew1 | refine below_set ?_ GE449.out) | exact HB.out)) hb)
                        clear BK449
                        clear HB
                        have BK449 := n0_
                        have HB := n1_
                        clear n0_ n1_
                        (try clear hb)
                        (try clear hb2)
                        (try clear hk)
                        (try clear hi)
                        refine hK.out _ _ ⟨(blk_cell BK449.out 0).trans rfl, (blk_cell BK449.out 1).trans rfl, ((HB.out.cell (World.block_lt_of_cell? w _ hw452_0)).trans hw452_0), ((HB.out.cell (World.block_lt_of_cell? w _ hw452_1)).trans hw452_1), ((HB.out.cell (World.block_lt_of_cell? w _ hw453_0)).trans hw453_0), ((HB.out.cell (World.block_lt_of_cell? w _ hw453_1)).trans hw453_1)⟩ (fun hHeld => ?_)
                        clear hK K
                        refine norm_ (a' := ?_) ?_ ?_
                        rotate_left
                        · show Act.put _ (some 34) _ = _
                          simp only [Act.put, List.setIfInBounds_toArray, List.set_cons_zero, List.set_cons_succ, i64_w, i32_w]
                          rfl
                        refine done_ (done_of HT_.out (by kernel_rfl)) ?_
                        try go_wp2
                        go_roundg k2
                        case measure => have := HJ2.out; have := HK2.out; omega
                        case rel => exact ⟨(wrap64 (x6_2 + 1)), (by first | rfl | (simp; done) | (simp [*]; done)), H', ⟨by have := HJ2.out; have := HK2.out; omega⟩, ⟨by (with_reducible repeat (first | refine blk_drewN ?_ _ | refine blk_drew ?_ | refine blk_alloc ?_ _)); exact BK449.out⟩, ⟨by repeat (first | (with_reducible first | exact HB.out | apply below_alloc | apply pw_below_drewN | apply below_drew1 | refine below_set ?_ GE449.out) | exact HB.out)⟩⟩
                    · rw [if_neg c18] at H
                      exact absurd H (by simp)
                  · rw [if_neg c17] at H
                    exact absurd H (by simp)
              · rw [if_neg c14] at H
                exact absurd H (by simp)
            · rw [if_neg c13] at H
              have c13b0 : decide (x6_2 < (l0.length : Int)) = false := decide_eq_false c13
              clear c13
              replace H := Option.bind_eq_some_iff.mp H
              obtain ⟨t455, A250, H⟩ := H
              replace H : (if t455 = true then (some (1, true)) else (some ((-1), true))) = some (r1, r2) := H
              have A25 := Aside0.mk A250
              clear A250
              by_cases c26 : t455 = true
              · subst c26
                have H1 : (some (1, true)) = some (r1, r2) := by rw [if_pos rfl] at H; exact H
                clear H
                have H := H1
                clear H1
                simp only [Option.some.injEq, Prod.mk.injEq] at H
                obtain ⟨rfl, rfl⟩ := H
                have hcz27_0 : wr.cell? ⟨gb449, 0, none⟩ = some (.int .i64 a1_0) := (blk_cell BK449.out 0).trans rfl
                have hcz27_1 : wr.cell? ⟨gb449, 1, none⟩ = some (.int .i64 a1_1) := (blk_cell BK449.out 1).trans rfl
                have hfz27_0 := blk_frozen BK449.out 0
                have hfz27_1 := blk_frozen BK449.out 1
                go_wp2_with (first | ((with_reducible refine gate_callee (f := 58) rfl ?_); refine goesL_ (some 37) rfl rfl Try.func58 (by kernel_rfl) rfl #[.slice A0 l0.length c0, .agg #[.int .i64 a1_0, .int .i64 a1_1]] rfl (by (try simp only [List.map_toArray, List.map_cons, List.map_nil]); first | done | rfl | (simp only [List.length_drop, List.length_take]; rfl)) ?_; (with_reducible refine (spec_l31Odd.calls k2 _ _ l0 a1_0 a1_1 true _ ?side1 ?side2 A25.out).mono ?_); (case side1 => repeat (first | exact (Kd.C_below HR0.out HB.out) | (with_reducible refine Kd.C_alloc ?_ _) | (with_reducible refine Kd.C_drewN ?_ _) | (with_reducible refine Kd.C_drew ?_))); (case side2 => exact HC0.out); rintro e w28 ⟨rfl, hb⟩; refine ⟨_, rfl, ?_⟩; have n0_ := Aside0.mk (blk_below (g := gb449) (o := .cells #[.int .i64 a1_0, .int .i64 a1_1] 32 (0, 0)) (by (with_reducible repeat (first | refine blk_drewN ?_ _ | refine blk_drew ?_ | refine blk_alloc ?_ _)); exact BK449.out) hb); have n1_ := Aside0.mk (below_step (by repeat (first | (with_reducible first | exact HB.out | apply below_alloc | apply pw_below_drewN | apply below_drew1 | refine below_set ?_ GE449.out) | exact HB.out)) hb); clear BK449; clear HB; have BK449 := n0_; have HB := n1_; clear n0_ n1_; (try clear hb); (try clear hb2); (try clear hk); (try clear hi)))
                go_ret2
                exact ⟨by first | rfl | (simp [errW_none, errW_some] <;> rfl) | (simp [*, errW_none, errW_some] <;> rfl), by repeat (first | (with_reducible first | exact HB.out | apply below_alloc | apply pw_below_drewN | apply below_drew1 | refine below_set ?_ GE449.out) | exact HB.out)⟩
              · replace c26 := Bool.eq_false_iff.mpr c26
                subst c26
                have H1 : (some ((-1), true)) = some (r1, r2) := by rw [if_neg (show ¬ (false = true) by decide)] at H; exact H
                clear H
                have H := H1
                clear H1
                simp only [Option.some.injEq, Prod.mk.injEq] at H
                obtain ⟨rfl, rfl⟩ := H
                have hcz29_0 : wr.cell? ⟨gb449, 0, none⟩ = some (.int .i64 a1_0) := (blk_cell BK449.out 0).trans rfl
                have hcz29_1 : wr.cell? ⟨gb449, 1, none⟩ = some (.int .i64 a1_1) := (blk_cell BK449.out 1).trans rfl
                have hfz29_0 := blk_frozen BK449.out 0
                have hfz29_1 := blk_frozen BK449.out 1
                go_wp2_with (first | ((with_reducible refine gate_callee (f := 58) rfl ?_); refine goesL_ (some 37) rfl rfl Try.func58 (by kernel_rfl) rfl #[.slice A0 l0.length c0, .agg #[.int .i64 a1_0, .int .i64 a1_1]] rfl (by (try simp only [List.map_toArray, List.map_cons, List.map_nil]); first | done | rfl | (simp only [List.length_drop, List.length_take]; rfl)) ?_; (with_reducible refine (spec_l31Odd.calls k2 _ _ l0 a1_0 a1_1 false _ ?side1 ?side2 A25.out).mono ?_); (case side1 => repeat (first | exact (Kd.C_below HR0.out HB.out) | (with_reducible refine Kd.C_alloc ?_ _) | (with_reducible refine Kd.C_drewN ?_ _) | (with_reducible refine Kd.C_drew ?_))); (case side2 => exact HC0.out); rintro e w30 ⟨rfl, hb⟩; refine ⟨_, rfl, ?_⟩; have n0_ := Aside0.mk (blk_below (g := gb449) (o := .cells #[.int .i64 a1_0, .int .i64 a1_1] 32 (0, 0)) (by (with_reducible repeat (first | refine blk_drewN ?_ _ | refine blk_drew ?_ | refine blk_alloc ?_ _)); exact BK449.out) hb); have n1_ := Aside0.mk (below_step (by repeat (first | (with_reducible first | exact HB.out | apply below_alloc | apply pw_below_drewN | apply below_drew1 | refine below_set ?_ GE449.out) | exact HB.out)) hb); clear BK449; clear HB; have BK449 := n0_; have HB := n1_; clear n0_ n1_; (try clear hb); (try clear hb2); (try clear hk); (try clear hi)))
                go_ret2
                exact ⟨by first | rfl | (simp [errW_none, errW_some] <;> rfl) | (simp [*, errW_none, errW_some] <;> rfl), by repeat (first | (with_reducible first | exact HB.out | apply below_alloc | apply pw_below_drewN | apply below_drew1 | refine below_set ?_ GE449.out) | exact HB.out)⟩

end Go.Proofs.Ytgdhgncdpmalcaa.Q
namespace Go.Proofs.Ytgdhgncdpmalcaa.Q
open Go.RowKit Go.Proofs.YtgdhgncdpmalcaaW.PrintWords Go.Proofs.YtgdhgncdpmalcaaW.PrintLast Go.Proofs.YtgdhgncdpmalcaaW.PrintMore
attribute [local go_sem] max2_int min2_int max_two min_two max_three min_three max_four min_four   -- for this text's walks alone
set_option linter.unusedVariables false
set_option linter.unusedSimpArgs false

/-! ### laws_FnPolyPlace: function 6 -/
mutual
def laws_FnPolyPlace.j0 : Nat → List Int → List Int → Bool → Option (Bool)
  | 0, _, _, _ => none
  | k + 1, x0, x1, x32 => if x32 = true then (some true) else ((spec_DrawPolyPlace.f k x0).bind fun bt456 => ((impl_PolyPlace.f bt456.1 bt456.2.1 bt456.2.2).bind fun bt462 => ((spec_PolyPlace.f k bt456.1 bt456.2.1 bt456.2.2).bind fun bt464 => (if (bt462.2 != bt464.2) = true then (laws_FnPolyPlace.j1 k x1 bt456.1 bt462.1 bt462.2 bt464.1 bt464.2 true bt456.2.1 bt456.2.2) else (if bt462.1 = bt464.1 then (laws_FnPolyPlace.j1 k x1 bt456.1 bt462.1 bt462.2 bt464.1 bt464.2 (!bt462.2) bt456.2.1 bt456.2.2) else (laws_FnPolyPlace.j1 k x1 bt456.1 bt462.1 bt462.2 bt464.1 bt464.2 true bt456.2.1 bt456.2.2))))))
def laws_FnPolyPlace.j1 : Nat → List Int → List (S32) → Int → Bool → Int → Bool → Bool → Int → Int → Option (Bool)
  | 0, _, _, _, _, _, _, _, _, _ => none
  | k + 1, x1, x5, x7, x8, x9, x10, x61, x462000, x462001 => if x61 = true then (if (x8 == x10) = true then (some (x7 == x9)) else (some false)) else (if (x5.length : Int) = 0 then (none) else ((impl_PolyBack.f k x5).bind fun bt466 => ((impl_PolyPlace.f bt466.1 x462000 x462001).bind fun bt470 => ((laws_begunAt.f x5 ((x1.length : Int) % (x5.length : Int))).bind fun t472 => ((impl_PolyPlace.f t472 x462000 x462001).bind fun bt475 => (if 0 ≤ ((x1.length : Int) % (x5.length : Int)) then (if ((x1.length : Int) % (x5.length : Int)) < (x5.length : Int) then ((impl_PolyPlace.f x5 ((rd_T32 x5 ((x1.length : Int) % (x5.length : Int))).f0) ((rd_T32 x5 ((x1.length : Int) % (x5.length : Int))).f1)).bind fun bt478 => ((impl_PolyPlace.f x5 (-10000) x462001).bind fun bt481 => (laws_FnPolyPlace.l0 k x5 x7 bt466.2 bt470.1 bt470.2 bt475.1 bt475.2 bt478.1 bt478.2 bt481.1 bt481.2 true 0 (-10000) x462001))) else (none)) else (none)))))))
def laws_FnPolyPlace.l0 : Nat → List (S32) → Int → Bool → Int → Bool → Int → Bool → Int → Bool → Int → Bool → Bool → Int → Int → Int → Option (Bool)
  | 0, _, _, _, _, _, _, _, _, _, _, _, _, _, _, _ => none
  | k + 1, x5, x7, x13, x14, x15, x16, x17, x18, x19, x21, x22, x23, x24, x481000, x481001 => if x24 < (x5.length : Int) then (if x23 = true then (if 0 ≤ x24 then (laws_FnPolyPlace.l0 k x5 x7 x13 x14 x15 x16 x17 x18 x19 x21 x22 (decide (((rd_T32 x5 x24).f0) > x481000)) (wrap64 (x24 + 1)) x481000 x481001) else (none)) else (laws_FnPolyPlace.l0 k x5 x7 x13 x14 x15 x16 x17 x18 x19 x21 x22 false (wrap64 (x24 + 1)) x481000 x481001)) else (if x13 = true then (if x15 = true then (if x17 = true then (if x19 = true then (if x22 = true then (if x14 = x7 then (if x16 = x7 then (if x18 = 0 then (if x23 = true then (some (x21 == (-1))) else (some true)) else (some false)) else (some false)) else (some false)) else (some false)) else (some false)) else (some false)) else (some false)) else (some false))
end
def laws_FnPolyPlace.f (k : Nat) (l0 : List Int) (l1 : List Int) : Option (Bool) := if (l0.length : Int) > 1048576 then (laws_FnPolyPlace.j0 k l0 l1 true) else (laws_FnPolyPlace.j0 k l0 l1 (decide ((l1.length : Int) > 1048576)))
def laws_FnPolyPlace.T11 : Bool × List (List Nat × List Nat) := (true, [([], []), ([], []), ([0, 1], [0, 1]), ([], []), ([2, 3, 2], [2, 3]), ([4], [4]), ([5], [5]), ([5], [5]), ([6, 4, 0, 1, 2, 3, 4, 5, 6], [6]), ([7, 8, 0, 1, 2, 3, 4, 5, 6, 7, 8], [7])])
def laws_FnPolyPlace.B11 : List Nat := [0, 0, 3, 0, 15, 31, 63, 63, 127, 511]
theorem laws_FnPolyPlace.tab11 : rtab .any (opsOf Try.f6 11) = laws_FnPolyPlace.T11 := by kernel_rfl
theorem laws_FnPolyPlace.bits11 : waitsOk laws_FnPolyPlace.T11.2 laws_FnPolyPlace.B11 = true := by kernel_rfl
def laws_FnPolyPlace.T19 : Bool × List (List Nat × List Nat) := (true, [([], []), ([0], [0]), ([1], [1]), ([1], [1]), ([2, 3, 1], [1, 2, 3]), ([4, 1], [1, 4]), ([5, 1], [1, 5]), ([1], [1]), ([7, 1], [1, 7]), ([6, 8, 1], [1, 6, 8]), ([1, 9], [1, 9]), ([10, 1, 0, 1, 2, 3, 4, 5, 6, 7, 8, 9, 10], [0, 10])])
def laws_FnPolyPlace.B19 : List Nat := [0, 1, 3, 3, 15, 31, 63, 3, 131, 511, 1023, 2047]
theorem laws_FnPolyPlace.tab19 : rtab .any (opsOf Try.f6 19) = laws_FnPolyPlace.T19 := by kernel_rfl
theorem laws_FnPolyPlace.bits19 : waitsOk laws_FnPolyPlace.T19.2 laws_FnPolyPlace.B19 = true := by kernel_rfl
set_option maxHeartbeats 8000000 in
set_option maxRecDepth 100000 in
theorem laws_FnPolyPlace.calls (k : Nat) (A0 : Option Addr) (c0 : Nat) (l0 : List Int) (A1 : Option Addr) (c1 : Nat) (l1 : List Int) (r : Bool) (w : World) (hr0 : Kd.C (Kd.int .u8) w A0 l0.length l0) (hc0 : l0.length ≤ c0) (hr1 : Kd.C (Kd.int .u8) w A1 l1.length l1) (hc1 : l1.length ≤ c1) (h : laws_FnPolyPlace.f k l0 l1 = some r) (hT0 : r = true) :
    Calls Try.prog 6 #[.slice A0 l0.length c0, .slice A1 l1.length c1] w fun e w' => e = .returned (.bool r) ∧ Below w.heap.size w w' := by
  have hu32 := Try.underlying32
  have hT := Aside0.mk hT0
  clear hT0
  have HR0 := Aside0.mk hr0
  have HC0 := Aside0.mk hc0
  clear hr0 hc0
  have HR1 := Aside0.mk hr1
  have HC1 := Aside0.mk hc1
  clear hr1 hc1
  have HB := Aside0.mk (Below.refl w.heap.size w)
  have H : (if (l0.length : Int) > 1048576 then (laws_FnPolyPlace.j0 k l0 l1 true) else (laws_FnPolyPlace.j0 k l0 l1 (decide ((l1.length : Int) > 1048576)))) = some r := h
  clear h
  have HC3 := Aside0.mk H
  clear H
  go_enter Try.func6, Try.ntmps6
  go_upto_region 1 with (fail)
  go_cut [32] (fun v32 wc => ∃ (kq : Nat) (x32_2 : Bool), v32 = .bool x32_2 ∧ Aside0 (laws_FnPolyPlace.j0 kq l0 l1 x32_2 = some r) ∧ Aside0 (kq ≤ k) ∧ Aside0 (Below w.heap.size w wc))
  case first =>
    have H := HC3.out
    clear HC3
    by_cases c4 : (l0.length : Int) > 1048576
    · rw [if_pos c4] at H
      have c4b0 : decide (1048576 < (l0.length : Int)) = true := decide_eq_true c4
      have c4b1 : decide (1048576 < l0.length) = true := decide_eq_true (by omega)
      clear c4
      (first | rw [c4b0] | (simp only [i64_w, i32_w]; rw [c4b0]) | skip)
      have H' := Aside0.mk H
      clear H
      go_wp2
      go_meet
      case rel => exact ⟨_, (true), (by first | rfl | (simp; done) | (simp [*]; done)), H', ⟨by first | omega | exact Nat.le_refl _⟩, ⟨by repeat (first | (with_reducible first | exact HB.out | apply below_alloc | apply pw_below_drewN | apply below_drew1) | exact HB.out)⟩⟩
    · rw [if_neg c4] at H
      have c4b0 : decide (1048576 < (l0.length : Int)) = false := decide_eq_false c4
      have c4b1 : decide (1048576 < l0.length) = false := decide_eq_false (by omega)
      clear c4
      (first | rw [c4b0] | (simp only [i64_w, i32_w]; rw [c4b0]) | skip)
      have H' := Aside0.mk H
      clear H
      go_wp2
      go_meet
      case rel => exact ⟨_, (decide ((l1.length : Int) > 1048576)), (by first | rfl | (simp; done) | (simp [*]; done)), H', ⟨by first | omega | exact Nat.le_refl _⟩, ⟨by repeat (first | (with_reducible first | exact HB.out | apply below_alloc | apply pw_below_drewN | apply below_drew1) | exact HB.out)⟩⟩
  case rest =>
    clear HC3
    try clear c1
    try clear p2
    try clear c4
    try clear c4b0
    try clear c4b1
    obtain ⟨kq, x32_2, rfl, HA, HJ2, HB⟩ := hcut
    cases kq with
    | zero => exact absurd HA.out (by simp [laws_FnPolyPlace.j0])
    | succ kj2 =>
      have H := HA.out
      clear HA
      simp only [laws_FnPolyPlace.j0] at H
      by_cases c5 : x32_2 = true
      · subst c5
        have H1 : (some true) = some r := by rw [if_pos rfl] at H; exact H
        clear H
        have H := H1
        clear H1
        obtain rfl := Option.some.inj H
        go_wp2
        go_ret
        exact ⟨by first | rfl | (simp [errW_none, errW_some] <;> rfl) | (simp [*, errW_none, errW_some] <;> rfl), by repeat (first | (with_reducible first | exact HB.out | apply below_alloc | apply pw_below_drewN | apply below_drew1) | exact HB.out)⟩
      · replace c5 := Bool.eq_false_iff.mpr c5
        subst c5
        have H1 : ((spec_DrawPolyPlace.f kj2 l0).bind fun bt456 => ((impl_PolyPlace.f bt456.1 bt456.2.1 bt456.2.2).bind fun bt462 => ((spec_PolyPlace.f kj2 bt456.1 bt456.2.1 bt456.2.2).bind fun bt464 => (if (bt462.2 != bt464.2) = true then (laws_FnPolyPlace.j1 kj2 l1 bt456.1 bt462.1 bt462.2 bt464.1 bt464.2 true bt456.2.1 bt456.2.2) else (if bt462.1 = bt464.1 then (laws_FnPolyPlace.j1 kj2 l1 bt456.1 bt462.1 bt462.2 bt464.1 bt464.2 (!bt462.2) bt456.2.1 bt456.2.2) else (laws_FnPolyPlace.j1 kj2 l1 bt456.1 bt462.1 bt462.2 bt464.1 bt464.2 true bt456.2.1 bt456.2.2)))))) = some r := by rw [if_neg (show ¬ (false = true) by decide)] at H; exact H
        clear H
        have H := H1
        clear H1
        replace H := Option.bind_eq_some_iff.mp H
        obtain ⟨⟨t456, t459, t460⟩, A60, H⟩ := H
        replace H : ((impl_PolyPlace.f t456 t459 t460).bind fun bt462 => ((spec_PolyPlace.f kj2 t456 t459 t460).bind fun bt464 => (if (bt462.2 != bt464.2) = true then (laws_FnPolyPlace.j1 kj2 l1 t456 bt462.1 bt462.2 bt464.1 bt464.2 true t459 t460) else (if bt462.1 = bt464.1 then (laws_FnPolyPlace.j1 kj2 l1 t456 bt462.1 bt462.2 bt464.1 bt464.2 (!bt462.2) t459 t460) else (laws_FnPolyPlace.j1 kj2 l1 t456 bt462.1 bt462.2 bt464.1 bt464.2 true t459 t460))))) = some r := H
        have A6 := Aside0.mk A60
        clear A60
        replace H := Option.bind_eq_some_iff.mp H
        obtain ⟨⟨t462, t463⟩, A70, H⟩ := H
        replace H : ((spec_PolyPlace.f kj2 t456 t459 t460).bind fun bt464 => (if (t463 != bt464.2) = true then (laws_FnPolyPlace.j1 kj2 l1 t456 t462 t463 bt464.1 bt464.2 true t459 t460) else (if t462 = bt464.1 then (laws_FnPolyPlace.j1 kj2 l1 t456 t462 t463 bt464.1 bt464.2 (!t463) t459 t460) else (laws_FnPolyPlace.j1 kj2 l1 t456 t462 t463 bt464.1 bt464.2 true t459 t460)))) = some r := H
        have A7 := Aside0.mk A70
        clear A70
        replace H := Option.bind_eq_some_iff.mp H
        obtain ⟨⟨t464, t465⟩, A80, H⟩ := H
        replace H : (if (t463 != t465) = true then (laws_FnPolyPlace.j1 kj2 l1 t456 t462 t463 t464 t465 true t459 t460) else (if t462 = t464 then (laws_FnPolyPlace.j1 kj2 l1 t456 t462 t463 t464 t465 (!t463) t459 t460) else (laws_FnPolyPlace.j1 kj2 l1 t456 t462 t463 t464 t465 true t459 t460))) = some r := H
        have A8 := Aside0.mk A80
        clear A80
        have HC9 := Aside0.mk H
        clear H
        go_upto_region 6 with (first | ((with_reducible refine gate_callee (f := 24) rfl ?_); refine goesL_ (some 35) rfl rfl Try.func24 (by kernel_rfl) rfl #[.slice A0 l0.length c0] rfl (by (try simp only [List.map_toArray, List.map_cons, List.map_nil]); first | done | rfl | (simp only [List.length_drop, List.length_take]; rfl)) ?_; (with_reducible refine (spec_DrawPolyPlace.calls kj2 _ _ l0 t456 t459 t460 _ ?side1 ?side2 A6.out).mono ?_); (case side1 => repeat (first | exact (Kd.C_below HR0.out HB.out) | (with_reducible refine Kd.C_alloc ?_ _) | (with_reducible refine Kd.C_drewN ?_ _) | (with_reducible refine Kd.C_drew ?_))); (case side2 => exact HC0.out); rintro e w10 ⟨v457, rfl, ho0, hb⟩; refine ⟨_, rfl, ?_⟩; have n0_ := Aside0.mk (Kd.Q_lower ho0 (below_size (by repeat (first | (with_reducible first | exact HB.out | apply below_alloc | apply pw_below_drewN | apply below_drew1) | exact HB.out)))); have n1_ := Aside0.mk (below_step (by repeat (first | (with_reducible first | exact HB.out | apply below_alloc | apply pw_below_drewN | apply below_drew1) | exact HB.out)) hb); clear HB; have HO458 := n0_; have HB := n1_; clear n0_ n1_; (try clear hb); (try clear hb2); (try clear hk); (try clear hi); (try clear ho0)) | ((with_reducible refine gate_dst (N := 6) rfl ?_); (try (refine gate_guard (by rfl) ?_; dsimp only)); refine box_event ?hg (N := 6) ?hd (cs := #[.int .i64 0, .int .i64 0]) (t := 32) ?hr ?_; (case hd => rfl); (case hg => rfl); (case hr => first | (go_simp; done) | (go_simp; rfl)); intro gb461 hg w11 hbox hb; have n0_ := Aside0.mk (Kd.Q_below (Kd.Q_elderB (by (with_reducible repeat (first | apply Kd.Q_alloc | apply Kd.Q_drewN | apply Kd.Q_drew)); exact HO458.out) gb461 (Nat.le_of_eq hg.symm)) hb); have n1_ := Aside0.mk (below_step (by repeat (first | (with_reducible first | exact HB.out | apply below_alloc | apply pw_below_drewN | apply below_drew1) | exact HB.out)) hb); have n2_ := Aside0.mk (hbox); have n3_ := Aside0.mk ((by rw [hg]; exact (below_size (by repeat (first | (with_reducible first | exact HB.out | apply below_alloc | apply pw_below_drewN | apply below_drew1) | exact HB.out))) : w.heap.size ≤ gb461)); have n4_ := Aside0.mk ((by rw [hg]; exact (below_size (by repeat (first | (with_reducible first | exact HB.out | apply below_alloc | apply pw_below_drewN | apply below_drew1) | exact HB.out))) : w.heap.size ≤ gb461)); clear HO458; clear HB; have HO458 := n0_; have HB := n1_; have BK461 := n2_; have GW461 := n3_; have GE461 := n4_; clear n0_ n1_ n2_ n3_ n4_; clear hb hbox hg; have hcz12_0 : w11.cell? ⟨gb461, 0, none⟩ = some (.int .i64 0) := (blk_cell BK461.out 0).trans rfl; have hcz12_1 : w11.cell? ⟨gb461, 1, none⟩ = some (.int .i64 0) := (blk_cell BK461.out 1).trans rfl; have hfz12_0 := blk_frozen BK461.out 0; have hfz12_1 := blk_frozen BK461.out 1; obtain ⟨Ao13, co13, eo13, _⟩ := Kd.Q_slice HO458.out; subst eo13) | ((with_reducible refine gate_callee (f := 25) rfl ?_); refine goesL_ (some 41) rfl rfl Try.func25 (by kernel_rfl) rfl #[.slice Ao13 t456.length co13, .agg #[.int .i64 t459, .int .i64 t460]] rfl (by (try simp only [List.map_toArray, List.map_cons, List.map_nil]); first | done | rfl | (simp only [List.length_drop, List.length_take]; rfl)) ?_; (with_reducible refine (impl_PolyPlace.calls _ _ t456 t459 t460 t462 t463 _ ?side1 ?side2 A7.out).mono ?_); (case side1 => refine (Kd.Q_reads' (e := 32) (base := w.heap.size) (ok := fun k_ => (True ∧ k_ ≠ gb461)) (n := t456.length) (c := co13) ?_).2.2; exact (by (with_reducible repeat (first | apply Kd.Q_alloc | apply Kd.Q_drewN | apply Kd.Q_drew)); exact (Kd.Q_mono (Kd.Q_far (p := ⟨gb461, 1, none⟩) (Kd.Q_far (p := ⟨gb461, 0, none⟩) (Kd.Q_mono HO458.out (fun k_ hk => (⟨hk, hk.2⟩ : _ ∧ k_ ≠ gb461))) (fun _ hk => hk.2) (.int .i64 t459)) (fun _ hk => hk.2) (.int .i64 t460)) (fun _ h_ => h_.1)))); (case side2 => exact (Kd.Q_reads' HO458.out).2.1); rintro e w14 ⟨rfl, hb⟩; refine ⟨_, rfl, ?_⟩; have n0_ := Aside0.mk (Kd.Q_below (by (with_reducible repeat (first | apply Kd.Q_alloc | apply Kd.Q_drewN | apply Kd.Q_drew)); exact (Kd.Q_mono (Kd.Q_far (p := ⟨gb461, 1, none⟩) (Kd.Q_far (p := ⟨gb461, 0, none⟩) (Kd.Q_mono HO458.out (fun k_ hk => (⟨hk, hk.2⟩ : _ ∧ k_ ≠ gb461))) (fun _ hk => hk.2) (.int .i64 t459)) (fun _ hk => hk.2) (.int .i64 t460)) (fun _ h_ => h_.1))) hb); have n1_ := Aside0.mk (blk_below (g := gb461) (o := .cells #[.int .i64 t459, .int .i64 t460] 32 (0, 0)) (by (with_reducible repeat (first | refine blk_drewN ?_ _ | refine blk_drew ?_ | refine blk_alloc ?_ _)); refine blk_put (cs := #[.int .i64 t459, .int .i64 0]) ?_ 1 _ rfl; (with_reducible repeat (first | refine blk_drewN ?_ _ | refine blk_drew ?_ | refine blk_alloc ?_ _)); refine blk_put (cs := #[.int .i64 0, .int .i64 0]) ?_ 0 _ rfl; (with_reducible repeat (first | refine blk_drewN ?_ _ | refine blk_drew ?_ | refine blk_alloc ?_ _)); exact BK461.out) hb); have n2_ := Aside0.mk (below_step (by repeat (first | (with_reducible first | exact HB.out | apply below_alloc | apply pw_below_drewN | apply below_drew1 | refine below_set ?_ GE461.out) | exact HB.out)) hb); clear HO458; clear BK461; clear HB; have HO458 := n0_; have BK461 := n1_; have HB := n2_; clear n0_ n1_ n2_; (try clear hb); (try clear hb2); (try clear hk); (try clear hi); have hcz15_0 : w14.cell? ⟨gb461, 0, none⟩ = some (.int .i64 t459) := (blk_cell BK461.out 0).trans rfl; have hcz15_1 : w14.cell? ⟨gb461, 1, none⟩ = some (.int .i64 t460) := (blk_cell BK461.out 1).trans rfl; have hfz15_0 := blk_frozen BK461.out 0; have hfz15_1 := blk_frozen BK461.out 1) | ((with_reducible refine gate_callee (f := 26) rfl ?_); refine goesL_ (some 47) rfl rfl Try.func26 (by kernel_rfl) rfl #[.slice Ao13 t456.length co13, .agg #[.int .i64 t459, .int .i64 t460]] rfl (by (try simp only [List.map_toArray, List.map_cons, List.map_nil]); first | done | rfl | (simp only [List.length_drop, List.length_take]; rfl)) ?_; (with_reducible refine (spec_PolyPlace.calls kj2 _ _ t456 t459 t460 t464 t465 _ ?side1 ?side2 A8.out).mono ?_); (case side1 => repeat (first | exact (Kd.Q_reads' HO458.out).2.2 | (with_reducible refine Kd.C_alloc ?_ _) | (with_reducible refine Kd.C_drewN ?_ _) | (with_reducible refine Kd.C_drew ?_))); (case side2 => exact (Kd.Q_reads' HO458.out).2.1); rintro e w16 ⟨rfl, hb⟩; refine ⟨_, rfl, ?_⟩; have n0_ := Aside0.mk (Kd.Q_below (by (with_reducible repeat (first | apply Kd.Q_alloc | apply Kd.Q_drewN | apply Kd.Q_drew)); exact HO458.out) hb); have n1_ := Aside0.mk (blk_below (g := gb461) (o := .cells #[.int .i64 t459, .int .i64 t460] 32 (0, 0)) (by (with_reducible repeat (first | refine blk_drewN ?_ _ | refine blk_drew ?_ | refine blk_alloc ?_ _)); exact BK461.out) hb); have n2_ := Aside0.mk (below_step (by repeat (first | (with_reducible first | exact HB.out | apply below_alloc | apply pw_below_drewN | apply below_drew1 | refine below_set ?_ GE461.out) | exact HB.out)) hb); clear HO458; clear BK461; clear HB; have HO458 := n0_; have BK461 := n1_; have HB := n2_; clear n0_ n1_ n2_; (try clear hb); (try clear hb2); (try clear hk); (try clear hi)))
        (try simp only [Act.put, List.setIfInBounds_toArray, List.set_cons_zero, List.set_cons_succ])
        go_cut [61] (fun v61 wc => ∃ (kq : Nat) (x61_8 : Bool), v61 = .bool x61_8 ∧ Aside0 (laws_FnPolyPlace.j1 kq l1 t456 t462 t463 t464 t465 x61_8 t459 t460 = some r) ∧ Aside0 (kq ≤ kj2) ∧ Aside0 (Kd.Q k32 32 wc w.heap.size (fun k_ => k_ ≠ gb461) (.slice Ao13 t456.length co13) t456) ∧ Aside0 (wc.heap[gb461]? = some (.cells #[.int .i64 t459, .int .i64 t460] 32 (0, 0))) ∧ Aside0 (Below w.heap.size w wc))
        case first =>
          have H := HC9.out
          clear HC9
          by_cases c17 : (t463 != t465) = true
          · rw [if_pos c17] at H
            have c17b0 : (t463 != t465) = true := c17
            (try (have c17b1 : decide (t463 = t465) = false := by simpa using c17))
            (try (have c17b2 : (t463 == t465) = false := by simpa using c17))
            (try (have c17b3 : ¬ (t463 = t465) := by simpa using c17))
            clear c17
            (first | rw [c17b0] | (simp only [i64_w, i32_w]; rw [c17b0]) | skip)
            have H' := Aside0.mk H
            clear H
            go_wp2
            go_meet
            case rel => exact ⟨_, (true), (by first | rfl | (simp; done) | (simp [*]; done)), H', ⟨by have := HJ2.out; first | omega | exact Nat.le_refl _⟩, ⟨by (with_reducible repeat (first | apply Kd.Q_alloc | apply Kd.Q_drewN | apply Kd.Q_drew)); exact Kd.Q_mono HO458.out (fun _ hk => hk.2)⟩, ⟨by (with_reducible repeat (first | refine blk_drewN ?_ _ | refine blk_drew ?_ | refine blk_alloc ?_ _)); exact BK461.out⟩, ⟨by repeat (first | (with_reducible first | exact HB.out | apply below_alloc | apply pw_below_drewN | apply below_drew1 | refine below_set ?_ GE461.out) | exact HB.out)⟩⟩
          · rw [if_neg c17] at H
            have c17b0 : (t463 != t465) = false := by simpa using c17
            (try (have c17b1 : decide (t463 = t465) = true := by simpa using c17))
            (try (have c17b2 : (t463 == t465) = true := by simpa using c17))
            clear c17
            (first | rw [c17b0] | (simp only [i64_w, i32_w]; rw [c17b0]) | skip)
            by_cases c18 : t462 = t464
            · rw [if_pos c18] at H
              have c18b0 : (t462 == t464) = true := beq_iff_eq.mpr c18
              have c18b1 : (t462 != t464) = false := bne_eq_false_iff_eq.mpr c18
              clear c18
              have H' := Aside0.mk H
              clear H
              go_wp2
              go_meet
              case rel => exact ⟨_, (!t463), (by first | rfl | (simp; done) | (simp [*]; done)), H', ⟨by have := HJ2.out; first | omega | exact Nat.le_refl _⟩, ⟨by (with_reducible repeat (first | apply Kd.Q_alloc | apply Kd.Q_drewN | apply Kd.Q_drew)); exact Kd.Q_mono HO458.out (fun _ hk => hk.2)⟩, ⟨by (with_reducible repeat (first | refine blk_drewN ?_ _ | refine blk_drew ?_ | refine blk_alloc ?_ _)); exact BK461.out⟩, ⟨by repeat (first | (with_reducible first | exact HB.out | apply below_alloc | apply pw_below_drewN | apply below_drew1 | refine below_set ?_ GE461.out) | exact HB.out)⟩⟩
            · rw [if_neg c18] at H
              have c18b0 : (t462 == t464) = false := beq_eq_false_iff_ne.mpr c18
              have c18b1 : (t462 != t464) = true := bne_iff_ne.mpr c18
              have H' := Aside0.mk H
              clear H
              go_wp2
              go_meet
              case rel => exact ⟨_, (true), (by first | rfl | (simp; done) | (simp [*]; done)), H', ⟨by have := HJ2.out; first | omega | exact Nat.le_refl _⟩, ⟨by (with_reducible repeat (first | apply Kd.Q_alloc | apply Kd.Q_drewN | apply Kd.Q_drew)); exact Kd.Q_mono HO458.out (fun _ hk => hk.2)⟩, ⟨by (with_reducible repeat (first | refine blk_drewN ?_ _ | refine blk_drew ?_ | refine blk_alloc ?_ _)); exact BK461.out⟩, ⟨by repeat (first | (with_reducible first | exact HB.out | apply below_alloc | apply pw_below_drewN | apply below_drew1 | refine below_set ?_ GE461.out) | exact HB.out)⟩⟩
        case rest =>
          clear HC9
          try clear c1
          try clear c2
          try clear p2
          try clear c4
          try clear c4b0
          try clear c4b1
          try clear c5
          try clear c6
          try clear c17
          try clear c17b0
          try clear c17b1
          try clear c17b2
          try clear c18
          try clear c18b0
          try clear c18b1
          try clear hcz12_0
          try clear hcz12_1
          try clear hcz15_0
          try clear hcz15_1
          try clear hfz12_0
          try clear hfz12_1
          try clear hfz15_0
          try clear hfz15_1
          try clear p2
          obtain ⟨kq, x61_8, rfl, HA, HJ8, HO_5, BK461, HB⟩ := hcut
          cases kq with
          | zero => exact absurd HA.out (by simp [laws_FnPolyPlace.j1])
          | succ kj8 =>
            have H := HA.out
            clear HA
            simp only [laws_FnPolyPlace.j1] at H
            by_cases c19 : x61_8 = true
            · subst c19
              have H1 : (if (t463 == t465) = true then (some (t462 == t464)) else (some false)) = some r := by rw [if_pos rfl] at H; exact H
              clear H
              have H := H1
              clear H1
              by_cases c20 : (t463 == t465) = true
              · rw [if_pos c20] at H
                have c20b0 : (t463 == t465) = true := c20
                (try (have c20b1 : decide (t463 = t465) = true := by simpa using c20))
                (try (have c20b2 : (t463 == t465) = true := by simpa using c20))
                clear c20
                obtain rfl := Option.some.inj H
                go_wp2
                go_ret
                exact ⟨by first | rfl | (simp [errW_none, errW_some] <;> rfl) | (simp [*, errW_none, errW_some] <;> rfl), by repeat (first | (with_reducible first | exact HB.out | apply below_alloc | apply pw_below_drewN | apply below_drew1 | refine below_set ?_ GE461.out) | exact HB.out)⟩
              · rw [if_neg c20] at H
                have c20b0 : (t463 == t465) = false := by simpa using c20
                (try (have c20b1 : decide (t463 = t465) = false := by simpa using c20))
                (try (have c20b2 : (t463 == t465) = false := by simpa using c20))
                (try (have c20b3 : ¬ (t463 = t465) := by simpa using c20))
                clear c20
                exact absurd ((Option.some.inj H).trans hT.out) (by decide)
            · replace c19 := Bool.eq_false_iff.mpr c19
              subst c19
              have H1 : (if (t456.length : Int) = 0 then (none) else ((impl_PolyBack.f kj8 t456).bind fun bt466 => ((impl_PolyPlace.f bt466.1 t459 t460).bind fun bt470 => ((laws_begunAt.f t456 ((l1.length : Int) % (t456.length : Int))).bind fun t472 => ((impl_PolyPlace.f t472 t459 t460).bind fun bt475 => (if 0 ≤ ((l1.length : Int) % (t456.length : Int)) then (if ((l1.length : Int) % (t456.length : Int)) < (t456.length : Int) then ((impl_PolyPlace.f t456 ((rd_T32 t456 ((l1.length : Int) % (t456.length : Int))).f0) ((rd_T32 t456 ((l1.length : Int) % (t456.length : Int))).f1)).bind fun bt478 => ((impl_PolyPlace.f t456 (-10000) t460).bind fun bt481 => (laws_FnPolyPlace.l0 kj8 t456 t462 bt466.2 bt470.1 bt470.2 bt475.1 bt475.2 bt478.1 bt478.2 bt481.1 bt481.2 true 0 (-10000) t460))) else (none)) else (none))))))) = some r := by rw [if_neg (show ¬ (false = true) by decide)] at H; exact H
              clear H
              have H := H1
              clear H1
              by_cases c21 : (t456.length : Int) = 0
              · rw [if_pos c21] at H
                exact absurd H (by simp)
              · rw [if_neg c21] at H
                have c21b0 : ((t456.length : Int) == 0) = false := beq_eq_false_iff_ne.mpr c21
                have c21b1 : ((t456.length : Int) != 0) = true := bne_iff_ne.mpr c21
                have c21b2 : ¬ (t456 = []) := fun h_ => c21 (by rw [h_]; rfl)
                replace H := Option.bind_eq_some_iff.mp H
                obtain ⟨⟨t466, t467⟩, A220, H⟩ := H
                replace H : ((impl_PolyPlace.f t466 t459 t460).bind fun bt470 => ((laws_begunAt.f t456 ((l1.length : Int) % (t456.length : Int))).bind fun t472 => ((impl_PolyPlace.f t472 t459 t460).bind fun bt475 => (if 0 ≤ ((l1.length : Int) % (t456.length : Int)) then (if ((l1.length : Int) % (t456.length : Int)) < (t456.length : Int) then ((impl_PolyPlace.f t456 ((rd_T32 t456 ((l1.length : Int) % (t456.length : Int))).f0) ((rd_T32 t456 ((l1.length : Int) % (t456.length : Int))).f1)).bind fun bt478 => ((impl_PolyPlace.f t456 (-10000) t460).bind fun bt481 => (laws_FnPolyPlace.l0 kj8 t456 t462 t467 bt470.1 bt470.2 bt475.1 bt475.2 bt478.1 bt478.2 bt481.1 bt481.2 true 0 (-10000) t460))) else (none)) else (none))))) = some r := H
                have A22 := Aside0.mk A220
                clear A220
                replace H := Option.bind_eq_some_iff.mp H
                obtain ⟨⟨t470, t471⟩, A230, H⟩ := H
                replace H : ((laws_begunAt.f t456 ((l1.length : Int) % (t456.length : Int))).bind fun t472 => ((impl_PolyPlace.f t472 t459 t460).bind fun bt475 => (if 0 ≤ ((l1.length : Int) % (t456.length : Int)) then (if ((l1.length : Int) % (t456.length : Int)) < (t456.length : Int) then ((impl_PolyPlace.f t456 ((rd_T32 t456 ((l1.length : Int) % (t456.length : Int))).f0) ((rd_T32 t456 ((l1.length : Int) % (t456.length : Int))).f1)).bind fun bt478 => ((impl_PolyPlace.f t456 (-10000) t460).bind fun bt481 => (laws_FnPolyPlace.l0 kj8 t456 t462 t467 t470 t471 bt475.1 bt475.2 bt478.1 bt478.2 bt481.1 bt481.2 true 0 (-10000) t460))) else (none)) else (none)))) = some r := H
                have A23 := Aside0.mk A230
                clear A230
                replace H := Option.bind_eq_some_iff.mp H
                obtain ⟨t472, A240, H⟩ := H
                replace H : ((impl_PolyPlace.f t472 t459 t460).bind fun bt475 => (if 0 ≤ ((l1.length : Int) % (t456.length : Int)) then (if ((l1.length : Int) % (t456.length : Int)) < (t456.length : Int) then ((impl_PolyPlace.f t456 ((rd_T32 t456 ((l1.length : Int) % (t456.length : Int))).f0) ((rd_T32 t456 ((l1.length : Int) % (t456.length : Int))).f1)).bind fun bt478 => ((impl_PolyPlace.f t456 (-10000) t460).bind fun bt481 => (laws_FnPolyPlace.l0 kj8 t456 t462 t467 t470 t471 bt475.1 bt475.2 bt478.1 bt478.2 bt481.1 bt481.2 true 0 (-10000) t460))) else (none)) else (none))) = some r := H
                have A24 := Aside0.mk A240
                clear A240
                replace H := Option.bind_eq_some_iff.mp H
                obtain ⟨⟨t475, t476⟩, A250, H⟩ := H
                replace H : (if 0 ≤ ((l1.length : Int) % (t456.length : Int)) then (if ((l1.length : Int) % (t456.length : Int)) < (t456.length : Int) then ((impl_PolyPlace.f t456 ((rd_T32 t456 ((l1.length : Int) % (t456.length : Int))).f0) ((rd_T32 t456 ((l1.length : Int) % (t456.length : Int))).f1)).bind fun bt478 => ((impl_PolyPlace.f t456 (-10000) t460).bind fun bt481 => (laws_FnPolyPlace.l0 kj8 t456 t462 t467 t470 t471 t475 t476 bt478.1 bt478.2 bt481.1 bt481.2 true 0 (-10000) t460))) else (none)) else (none)) = some r := H
                have A25 := Aside0.mk A250
                clear A250
                obtain ⟨ji26, hji26⟩ : ∃ j_ : Int, ((l1.length : Int) % (t456.length : Int)) = j_ := ⟨_, rfl⟩
                replace H : (if 0 ≤ (ji26) then (if (ji26) < (t456.length : Int) then ((impl_PolyPlace.f t456 ((rd_T32 t456 (ji26)).f0) ((rd_T32 t456 (ji26)).f1)).bind fun bt478 => ((impl_PolyPlace.f t456 (-10000) t460).bind fun bt481 => (laws_FnPolyPlace.l0 kj8 t456 t462 t467 t470 t471 t475 t476 bt478.1 bt478.2 bt481.1 bt481.2 true 0 (-10000) t460))) else (none)) else (none)) = some r := by first | (rw [hji26] at H; exact H) | (simp only [hji26] at H ⊢; exact H)
                (try rw [hji26] at A22)
                (try rw [hji26] at A23)
                (try rw [hji26] at A24)
                (try rw [hji26] at A25)
                by_cases c27 : 0 ≤ (ji26)
                · rw [if_pos c27] at H
                  have c27b0 : decide (0 ≤ (ji26)) = true := decide_eq_true c27
                  clear c27
                  by_cases c28 : (ji26) < (t456.length : Int)
                  · rw [if_pos c28] at H
                    have c28b0 : decide ((ji26) < (t456.length : Int)) = true := decide_eq_true c28
                    clear c28
                    replace H := Option.bind_eq_some_iff.mp H
                    obtain ⟨⟨t478, t479⟩, A290, H⟩ := H
                    replace H : ((impl_PolyPlace.f t456 (-10000) t460).bind fun bt481 => (laws_FnPolyPlace.l0 kj8 t456 t462 t467 t470 t471 t475 t476 t478 t479 bt481.1 bt481.2 true 0 (-10000) t460)) = some r := H
                    have A29 := Aside0.mk A290
                    clear A290
                    replace H := Option.bind_eq_some_iff.mp H
                    obtain ⟨⟨t481, t482⟩, A300, H⟩ := H
                    replace H : (laws_FnPolyPlace.l0 kj8 t456 t462 t467 t470 t471 t475 t476 t478 t479 t481 t482 true 0 (-10000) t460) = some r := H
                    have A30 := Aside0.mk A300
                    clear A300
                    have H' := Aside0.mk H
                    clear H
                    try go_wp2_with (first | ((with_reducible refine gate_callee (f := 14) rfl ?_); refine goesL_ (some 77) rfl rfl Try.func14 (by kernel_rfl) rfl #[.slice Ao13 t456.length co13] rfl (by (try simp only [List.map_toArray, List.map_cons, List.map_nil]); first | done | rfl | (simp only [List.length_drop, List.length_take]; rfl)) ?_; (with_reducible refine (impl_PolyBack.calls kj8 _ _ t456 t466 t467 _ ?side1 ?side2 A22.out).mono ?_); (case side1 => repeat (first | exact (Kd.Q_reads' HO_5.out).2.2 | (with_reducible refine Kd.C_alloc ?_ _) | (with_reducible refine Kd.C_drewN ?_ _) | (with_reducible refine Kd.C_drew ?_))); (case side2 => exact (Kd.Q_reads' HO_5.out).2.1); rintro e w31 ⟨v468, rfl, ho0, hb⟩; refine ⟨_, rfl, ?_⟩; have n0_ := Aside0.mk (Kd.Q_elder' (by (with_reducible repeat (first | apply Kd.Q_alloc | apply Kd.Q_drewN | apply Kd.Q_drew)); exact HO_5.out) (Kd.R_base ho0) hb); have n1_ := Aside0.mk (Kd.R_lower (Kd.R_newB (Kd.R_new' ho0 (Kd.Q_lt (by (with_reducible repeat (first | apply Kd.Q_alloc | apply Kd.Q_drewN | apply Kd.Q_drew)); exact HO_5.out))) (g := gb461) (o := .cells #[.int .i64 t459, .int .i64 t460] 32 (0, 0)) (by (with_reducible repeat (first | refine blk_drewN ?_ _ | refine blk_drew ?_ | refine blk_alloc ?_ _)); exact BK461.out)) (below_size (by repeat (first | (with_reducible first | exact HB.out | apply below_alloc | apply pw_below_drewN | apply below_drew1 | refine below_set ?_ GE461.out) | exact HB.out)))); have n2_ := Aside0.mk (blk_below (g := gb461) (o := .cells #[.int .i64 t459, .int .i64 t460] 32 (0, 0)) (by (with_reducible repeat (first | refine blk_drewN ?_ _ | refine blk_drew ?_ | refine blk_alloc ?_ _)); exact BK461.out) hb); have n3_ := Aside0.mk (below_step (by repeat (first | (with_reducible first | exact HB.out | apply below_alloc | apply pw_below_drewN | apply below_drew1 | refine below_set ?_ GE461.out) | exact HB.out)) hb); clear HO_5; clear BK461; clear HB; have HO_5 := n0_; have HO469 := n1_; have BK461 := n2_; have HB := n3_; clear n0_ n1_ n2_ n3_; (try clear hb); (try clear hb2); (try clear hk); (try clear hi); (try clear ho0); have hcz32_0 : w31.cell? ⟨gb461, 0, none⟩ = some (.int .i64 t459) := (blk_cell BK461.out 0).trans rfl; have hcz32_1 : w31.cell? ⟨gb461, 1, none⟩ = some (.int .i64 t460) := (blk_cell BK461.out 1).trans rfl; have hfz32_0 := blk_frozen BK461.out 0; have hfz32_1 := blk_frozen BK461.out 1; obtain ⟨Ao33, co33, eo33⟩ := Kd.R_slice HO469.out; subst eo33) | ((with_reducible refine gate_callee (f := 25) rfl ?_); refine goesL_ (some 83) rfl rfl Try.func25 (by kernel_rfl) rfl #[.slice Ao33 t466.length co33, .agg #[.int .i64 t459, .int .i64 t460]] rfl (by (try simp only [List.map_toArray, List.map_cons, List.map_nil]); first | done | rfl | (simp only [List.length_drop, List.length_take]; rfl)) ?_; (with_reducible refine (impl_PolyPlace.calls _ _ t466 t459 t460 t470 t471 _ ?side1 ?side2 A23.out).mono ?_); (case side1 => repeat (first | exact (Kd.R_reads' HO469.out).2.2 | (with_reducible refine Kd.C_alloc ?_ _) | (with_reducible refine Kd.C_drewN ?_ _) | (with_reducible refine Kd.C_drew ?_))); (case side2 => exact (Kd.R_reads' HO469.out).2.1); rintro e w34 ⟨rfl, hb⟩; refine ⟨_, rfl, ?_⟩; have n0_ := Aside0.mk (Kd.Q_below (by (with_reducible repeat (first | apply Kd.Q_alloc | apply Kd.Q_drewN | apply Kd.Q_drew)); exact HO_5.out) hb); have n1_ := Aside0.mk (Kd.R_below (by (with_reducible repeat (first | apply Kd.R_alloc | apply Kd.R_drewN | apply Kd.R_drew)); exact HO469.out) hb); have n2_ := Aside0.mk (blk_below (g := gb461) (o := .cells #[.int .i64 t459, .int .i64 t460] 32 (0, 0)) (by (with_reducible repeat (first | refine blk_drewN ?_ _ | refine blk_drew ?_ | refine blk_alloc ?_ _)); exact BK461.out) hb); have n3_ := Aside0.mk (below_step (by repeat (first | (with_reducible first | exact HB.out | apply below_alloc | apply pw_below_drewN | apply below_drew1 | refine below_set ?_ GE461.out) | exact HB.out)) hb); clear HO_5; clear HO469; clear BK461; clear HB; have HO_5 := n0_; have HO469 := n1_; have BK461 := n2_; have HB := n3_; clear n0_ n1_ n2_ n3_; (try clear hb); (try clear hb2); (try clear hk); (try clear hi)))
                    have n0_ := Aside0.mk (Kd.Q_drew HO_5.out)
                    have n1_ := Aside0.mk (Kd.R_drew HO469.out)
                    have n2_ := Aside0.mk (blk_drew BK461.out)
                    have n3_ := Aside0.mk (below_drew1 HB.out)
                    clear HO_5
                    clear HO469
                    clear BK461
                    clear HB
                    have HO_5 := n0_
                    have HO469 := n1_
                    have BK461 := n2_
                    have HB := n3_
                    clear n0_ n1_ n2_ n3_
                    refine start_ (n := 10) (S := fun w' => w'.cell? ⟨gb461, 0, none⟩ = some (.int .i64 t459) ∧ w'.cell? ⟨gb461, 1, none⟩ = some (.int .i64 t460)) (ds := []) #[false, false, false, false, false, false, false, false, false, false] (by kernel_rfl) rfl rfl ⟨(blk_cell BK461.out 0).trans rfl, (blk_cell BK461.out 1).trans rfl⟩ (fun hHeld => ?_); refine with_tabW laws_FnPolyPlace.tab11 laws_FnPolyPlace.bits11 (fun HT_ HW_ => ?_)
                    generalize w34.drew = w35 at HO_5 HO469 BK461 HB hHeld ⊢
                    refine pure_ (i := 0) (N := some 87) (v := ?_) (a' := ?_) #[true, false, false, false, false, false, false, false, false, false] rfl rfl (any_of HT_.out (by kernel_rfl)) (fun _ _ _ h => h) (Or.inl ⟨by rfl, ?_⟩) ?_ ?_
                    rotate_left
                    · intro w'
                      go_simp
                      with_reducible rfl
                    rotate_left
                    · simp only [Act.put, List.setIfInBounds_toArray, List.set_cons_zero, List.set_cons_succ, i64_w, i32_w]
                      rfl
                    refine pure_ (i := 1) (N := some 88) (v := ?_) (a' := ?_) #[true, true, false, false, false, false, false, false, false, false] rfl rfl (any_of HT_.out (by kernel_rfl)) (fun _ _ _ h => h) (Or.inl ⟨by rfl, ?_⟩) ?_ ?_
                    rotate_left
                    · intro w'
                      go_simp
                      with_reducible rfl
                    rotate_left
                    · simp only [Act.put, List.setIfInBounds_toArray, List.set_cons_zero, List.set_cons_succ, i64_w, i32_w]
                      rfl
                    refine take_ (i := 3) (N := some 90) (v := ?_) (a' := ?_) #[true, true, false, true, false, false, false, false, false, false] rfl rfl (take_ofW HT_.out HW_.out (by kernel_rfl)) (fun _ _ _ h => h) (Or.inl ⟨by rfl, ?_⟩) hHeld ?_ ?_
                    rotate_left
                    · rintro w' ⟨s0, s1⟩
                      go_simp
                      with_reducible rfl
                    rotate_left
                    · simp only [Act.put, List.setIfInBounds_toArray, List.set_cons_zero, List.set_cons_succ, i64_w, i32_w]
                      rfl
                    refine one_ (i := 2) (N := some 89) #[true, true, true, true, false, false, false, false, false, false] rfl rfl (one_of HT_.out (by kernel_rfl)) (by decide) (fun K hK => ?_)
                    refine goes_ Try.func15 (by kernel_rfl) rfl #[.slice Ao13 t456.length co13, .int .i64 ji26] (by rfl) rfl rfl (by (try simp only [List.map_toArray, List.map_cons, List.map_nil]); first | done | (simp only [hji26]; rfl) | rfl | (simp only [List.length_drop, List.length_take]; rfl)) ?_
                    with_reducible refine (laws_begunAt.calls _ _ t456 ji26 t472 _ ?side1 ?side2 A24.out).mono ?_
                    (case side1 => repeat (first | exact (Kd.Q_reads' HO_5.out).2.2 | (with_reducible refine Kd.C_alloc ?_ _) | (with_reducible refine Kd.C_drewN ?_ _) | (with_reducible refine Kd.C_drew ?_)))
                    (case side2 => exact (Kd.Q_reads' HO_5.out).2.1)
                    rintro e w36 ⟨v473, rfl, ho0, hb⟩
                    refine ⟨_, rfl, ?_⟩
                    have n0_ := Aside0.mk (Kd.Q_elder' (by (with_reducible repeat (first | apply Kd.Q_alloc | apply Kd.Q_drewN | apply Kd.Q_drew)); exact HO_5.out) (Kd.R_base ho0) hb)
                    have n1_ := Aside0.mk (Kd.R_elder' (by (with_reducible repeat (first | apply Kd.R_alloc | apply Kd.R_drewN | apply Kd.R_drew)); exact HO469.out) (Kd.R_base ho0) hb)
                    have n2_ := Aside0.mk (Kd.R_lower (Kd.R_newB (Kd.R_new' (Kd.R_new' ho0 (Kd.Q_lt (by (with_reducible repeat (first | apply Kd.Q_alloc | apply Kd.Q_drewN | apply Kd.Q_drew)); exact HO_5.out))) (Kd.R_lt (by (with_reducible repeat (first | apply Kd.R_alloc | apply Kd.R_drewN | apply Kd.R_drew)); exact HO469.out))) (g := gb461) (o := .cells #[.int .i64 t459, .int .i64 t460] 32 (0, 0)) (by (with_reducible repeat (first | refine blk_drewN ?_ _ | refine blk_drew ?_ | refine blk_alloc ?_ _)); exact BK461.out)) (below_size (by repeat (first | (with_reducible first | exact HB.out | apply below_alloc | apply pw_below_drewN | apply below_drew1 | refine below_set ?_ GE461.out) | exact HB.out))))
                    have n3_ := Aside0.mk (blk_below (g := gb461) (o := .cells #[.int .i64 t459, .int .i64 t460] 32 (0, 0)) (by (with_reducible repeat (first | refine blk_drewN ?_ _ | refine blk_drew ?_ | refine blk_alloc ?_ _)); exact BK461.out) hb)
                    have n4_ := Aside0.mk (below_step (by repeat (first | (with_reducible first | exact HB.out | apply below_alloc | apply pw_below_drewN | apply below_drew1 | refine below_set ?_ GE461.out) | exact HB.out)) hb)
                    clear HO_5
                    clear HO469
                    clear BK461
                    clear HB
                    have HO_5 := n0_
                    have HO469 := n1_
                    have HO474 := n2_
                    have BK461 := n3_
                    have HB := n4_
                    clear n0_ n1_ n2_ n3_ n4_
                    (try clear hb)
                    (try clear hb2)
                    (try clear hk)
                    (try clear hi)
                    (try clear ho0)
                    obtain ⟨Ao37, co37, eo37⟩ := Kd.R_slice HO474.out
                    (first | subst eo37 | (injection eo37 with f1_ f2_ f3_; have f4_ := f1_.symm; have f5_ := f3_.symm; clear f1_ f2_ f3_; subst f4_; subst f5_))
                    refine hK.out _ _ ⟨(blk_cell BK461.out 0).trans rfl, (blk_cell BK461.out 1).trans rfl⟩ (fun hHeld => ?_)
                    clear hK K
                    refine norm_ (a' := ?_) ?_ ?_
                    rotate_left
                    · show Act.put _ (some 89) _ = _
                      simp only [Act.put, List.setIfInBounds_toArray, List.set_cons_zero, List.set_cons_succ, i64_w, i32_w]
                      rfl
                    refine one_ (i := 4) (N := some 91) #[true, true, true, true, true, false, false, false, false, false] rfl rfl (one_of HT_.out (by kernel_rfl)) (by decide) (fun K hK => ?_)
                    refine goes_ Try.func25 (by kernel_rfl) rfl #[.slice Ao37 t472.length co37, .agg #[.int .i64 t459, .int .i64 t460]] (by rfl) rfl rfl (by (try simp only [List.map_toArray, List.map_cons, List.map_nil]); first | done | rfl | (simp only [List.length_drop, List.length_take]; rfl)) ?_
                    with_reducible refine (impl_PolyPlace.calls _ _ t472 t459 t460 t475 t476 _ ?side1 ?side2 A25.out).mono ?_
                    (case side1 => repeat (first | exact (Kd.R_reads' HO474.out).2.2 | (with_reducible refine Kd.C_alloc ?_ _) | (with_reducible refine Kd.C_drewN ?_ _) | (with_reducible refine Kd.C_drew ?_)))
                    (case side2 => exact (Kd.R_reads' HO474.out).2.1)
                    rintro e w38 ⟨rfl, hb⟩
                    refine ⟨_, rfl, ?_⟩
                    have n0_ := Aside0.mk (Kd.Q_below (by (with_reducible repeat (first | apply Kd.Q_alloc | apply Kd.Q_drewN | apply Kd.Q_drew)); exact HO_5.out) hb)
                    have n1_ := Aside0.mk (Kd.R_below (by (with_reducible repeat (first | apply Kd.R_alloc | apply Kd.R_drewN | apply Kd.R_drew)); exact HO469.out) hb)
                    have n2_ := Aside0.mk (Kd.R_below (by (with_reducible repeat (first | apply Kd.R_alloc | apply Kd.R_drewN | apply Kd.R_drew)); exact HO474.out) hb)
                    have n3_ := Aside0.mk (blk_below (g := gb461) (o := .cells #[.int .i64 t459, .int .i64 t460] 32 (0, 0)) (by (with_reducible repeat (first | refine blk_drewN ?_ _ | refine blk_drew ?_ | refine blk_alloc ?_ _)); exact BK461.out) hb)
                    have n4_ := Aside0.mk (below_step (by repeat (first | (with_reducible first | exact HB.out | apply below_alloc | apply pw_below_drewN | apply below_drew1 | refine below_set ?_ GE461.out) | exact HB.out)) hb)
                    clear HO_5
                    clear HO469
                    clear HO474
                    clear BK461
                    clear HB
                    have HO_5 := n0_
                    have HO469 := n1_
                    have HO474 := n2_
                    have BK461 := n3_
                    have HB := n4_
                    clear n0_ n1_ n2_ n3_ n4_
                    (try clear hb)
                    (try clear hb2)
                    (try clear hk)
                    (try clear hi)
                    refine hK.out _ _ ⟨(blk_cell BK461.out 0).trans rfl, (blk_cell BK461.out 1).trans rfl⟩ (fun hHeld => ?_)
                    clear hK K
                    refine norm_ (a' := ?_) ?_ ?_
                    rotate_left
                    · show Act.put _ (some 91) _ = _
                      simp only [Act.put, List.setIfInBounds_toArray, List.set_cons_zero, List.set_cons_succ, i64_w, i32_w]
                      rfl
                    refine pure_ (i := 5) (N := some 86) (v := ?_) (a' := ?_) #[true, true, true, true, true, true, false, false, false, false] rfl rfl (any_of HT_.out (by kernel_rfl)) (fun _ _ _ h => h) (Or.inl ⟨by rfl, ?_⟩) ?_ ?_
                    rotate_left
                    · intro w'
                      go_simp
                      with_reducible rfl
                    rotate_left
                    · simp only [Act.put, List.setIfInBounds_toArray, List.set_cons_zero, List.set_cons_succ, i64_w, i32_w]
                      rfl
                    refine pure_ (i := 6) (N := some 92) (v := ?_) (a' := ?_) #[true, true, true, true, true, true, true, false, false, false] rfl rfl (any_of HT_.out (by kernel_rfl)) (fun _ _ _ h => h) (Or.inl ⟨by rfl, ?_⟩) ?_ ?_
                    rotate_left
                    · intro w'
                      go_simp
                      with_reducible rfl
                    rotate_left
                    · simp only [Act.put, List.setIfInBounds_toArray, List.set_cons_zero, List.set_cons_succ, i64_w, i32_w]
                      rfl
                    refine pure_ (i := 7) (N := some 93) (v := ?_) (a' := ?_) #[true, true, true, true, true, true, true, true, false, false] rfl rfl (any_of HT_.out (by kernel_rfl)) (fun _ _ _ h => h) (Or.inl ⟨by rfl, ?_⟩) ?_ ?_
                    rotate_left
                    · intro w'
                      go_simp
                      with_reducible rfl
                    rotate_left
                    · simp only [Act.put, List.setIfInBounds_toArray, List.set_cons_zero, List.set_cons_succ, i64_w, i32_w]
                      rfl
                    refine pure_ (i := 8) (N := some 16) (v := ?_) (a' := ?_) #[true, true, true, true, true, true, true, true, true, false] rfl rfl (any_of HT_.out (by kernel_rfl)) (fun _ _ _ h => h) (Or.inl ⟨by rfl, ?_⟩) ?_ ?_
                    rotate_left
                    · intro w'
                      go_simp
                      with_reducible rfl
                    rotate_left
                    · simp only [Act.put, List.setIfInBounds_toArray, List.set_cons_zero, List.set_cons_succ, i64_w, i32_w]
                      rfl
                    refine pure_ (i := 9) (N := some 17) (v := ?_) (a' := ?_) #[true, true, true, true, true, true, true, true, true, true] rfl rfl (any_of HT_.out (by kernel_rfl)) (fun _ _ _ h => h) (Or.inl ⟨by rfl, ?_⟩) ?_ ?_
                    rotate_left
                    · intro w'
                      go_simp
                      with_reducible rfl
                    rotate_left
                    · simp only [Act.put, List.setIfInBounds_toArray, List.set_cons_zero, List.set_cons_succ, i64_w, i32_w]
                      rfl
                    refine done_ (done_of HT_.out (by kernel_rfl)) ?_
                    have p477 : 0 ≤ ((ji26) : Int) := of_decide_eq_true (by first | (with_reducible assumption) | assumption)
                    have q477 : (ji26) < (t456.length : Int) := of_decide_eq_true (by first | (with_reducible assumption) | assumption)
                    obtain ⟨ad477, e477, hx477_0, hx477_1⟩ := at_T32 (Kd.Q_reads' HO_5.out).2.2 (ji26) p477 q477
                    cases e477
                    replace p477 := eq_true p477
                    replace q477 := eq_true q477
                    try go_wp2_with (first | ((with_reducible refine gate_callee (f := 25) rfl ?_); refine goesL_ (some 100) rfl rfl Try.func25 (by kernel_rfl) rfl #[.slice (some ad477) t456.length co13, .agg #[.int .i64 ((rd_T32 t456 (ji26)).f0), .int .i64 ((rd_T32 t456 (ji26)).f1)]] rfl (by (try simp only [List.map_toArray, List.map_cons, List.map_nil]); first | done | (simp only [hji26]; rfl) | rfl | (simp only [List.length_drop, List.length_take]; rfl)) ?_; (with_reducible refine (impl_PolyPlace.calls _ _ t456 ((rd_T32 t456 (ji26)).f0) ((rd_T32 t456 (ji26)).f1) t478 t479 _ ?side1 ?side2 A29.out).mono ?_); (case side1 => repeat (first | exact (Kd.Q_reads' HO_5.out).2.2 | (with_reducible refine Kd.C_alloc ?_ _) | (with_reducible refine Kd.C_drewN ?_ _) | (with_reducible refine Kd.C_drew ?_))); (case side2 => exact (Kd.Q_reads' HO_5.out).2.1); rintro e w39 ⟨rfl, hb⟩; refine ⟨_, rfl, ?_⟩; have n0_ := Aside0.mk (Kd.Q_below (by (with_reducible repeat (first | apply Kd.Q_alloc | apply Kd.Q_drewN | apply Kd.Q_drew)); exact HO_5.out) hb); have n1_ := Aside0.mk (Kd.R_below (by (with_reducible repeat (first | apply Kd.R_alloc | apply Kd.R_drewN | apply Kd.R_drew)); exact HO469.out) hb); have n2_ := Aside0.mk (Kd.R_below (by (with_reducible repeat (first | apply Kd.R_alloc | apply Kd.R_drewN | apply Kd.R_drew)); exact HO474.out) hb); have n3_ := Aside0.mk (blk_below (g := gb461) (o := .cells #[.int .i64 t459, .int .i64 t460] 32 (0, 0)) (by (with_reducible repeat (first | refine blk_drewN ?_ _ | refine blk_drew ?_ | refine blk_alloc ?_ _)); exact BK461.out) hb); have n4_ := Aside0.mk (below_step (by repeat (first | (with_reducible first | exact HB.out | apply below_alloc | apply pw_below_drewN | apply below_drew1 | refine below_set ?_ GE461.out) | exact HB.out)) hb); clear HO_5; clear HO469; clear HO474; clear BK461; clear HB; have HO_5 := n0_; have HO469 := n1_; have HO474 := n2_; have BK461 := n3_; have HB := n4_; clear n0_ n1_ n2_ n3_ n4_; (try clear hb); (try clear hb2); (try clear hk); (try clear hi); have hcz40_0 : w39.cell? ⟨gb461, 0, none⟩ = some (.int .i64 t459) := (blk_cell BK461.out 0).trans rfl; have hcz40_1 : w39.cell? ⟨gb461, 1, none⟩ = some (.int .i64 t460) := (blk_cell BK461.out 1).trans rfl; have hfz40_0 := blk_frozen BK461.out 0; have hfz40_1 := blk_frozen BK461.out 1) | ((with_reducible refine gate_dst (N := 20) rfl ?_); (try (refine gate_guard (by rfl) ?_; dsimp only)); refine box_event ?hg (N := 20) ?hd (cs := #[.int .i64 0, .int .i64 0]) (t := 32) ?hr ?_; (case hd => rfl); (case hg => rfl); (case hr => first | (go_simp; done) | (go_simp; rfl)); intro gb480 hg w41 hbox hb; have n0_ := Aside0.mk (Kd.Q_below (Kd.Q_elderB (by (with_reducible repeat (first | apply Kd.Q_alloc | apply Kd.Q_drewN | apply Kd.Q_drew)); exact HO_5.out) gb480 (Nat.le_of_eq hg.symm)) hb); have n1_ := Aside0.mk (Kd.R_below (Kd.R_elderB (by (with_reducible repeat (first | apply Kd.R_alloc | apply Kd.R_drewN | apply Kd.R_drew)); exact HO469.out) gb480 (Nat.le_of_eq hg.symm)) hb); have n2_ := Aside0.mk (Kd.R_below (Kd.R_elderB (by (with_reducible repeat (first | apply Kd.R_alloc | apply Kd.R_drewN | apply Kd.R_drew)); exact HO474.out) gb480 (Nat.le_of_eq hg.symm)) hb); have n3_ := Aside0.mk (blk_below (g := gb461) (o := .cells #[.int .i64 t459, .int .i64 t460] 32 (0, 0)) (by (with_reducible repeat (first | refine blk_drewN ?_ _ | refine blk_drew ?_ | refine blk_alloc ?_ _)); exact BK461.out) hb); have n4_ := Aside0.mk (below_step (by repeat (first | (with_reducible first | exact HB.out | apply below_alloc | apply pw_below_drewN | apply below_drew1 | refine below_set ?_ GE461.out) | exact HB.out)) hb); have n5_ := Aside0.mk (hbox); have n6_ := Aside0.mk ((by rw [hg]; exact (below_size (by repeat (first | (with_reducible first | exact HB.out | apply below_alloc | apply pw_below_drewN | apply below_drew1 | refine below_set ?_ GE461.out) | exact HB.out))) : w.heap.size ≤ gb480)); have n7_ := Aside0.mk ((by rw [hg]; exact (below_size (by repeat (first | (with_reducible first | exact HB.out | apply below_alloc | apply pw_below_drewN | apply below_drew1 | refine below_set ?_ GE461.out) | exact HB.out))) : w.heap.size ≤ gb480)); have n8_ := Aside0.mk ((by rw [hg]; exact Nat.ne_of_lt (blk_lt (g := gb461) (o := .cells #[.int .i64 t459, .int .i64 t460] 32 (0, 0)) (by (with_reducible repeat (first | refine blk_drewN ?_ _ | refine blk_drew ?_ | refine blk_alloc ?_ _)); exact BK461.out)) : gb461 ≠ gb480)); have n9_ := Aside0.mk ((by rw [hg]; exact Nat.ne_of_gt (blk_lt (g := gb461) (o := .cells #[.int .i64 t459, .int .i64 t460] 32 (0, 0)) (by (with_reducible repeat (first | refine blk_drewN ?_ _ | refine blk_drew ?_ | refine blk_alloc ?_ _)); exact BK461.out)) : gb480 ≠ gb461)); clear HO_5; clear HO469; clear HO474; clear BK461; clear HB; have HO_5 := n0_; have HO469 := n1_; have HO474 := n2_; have BK461 := n3_; have HB := n4_; have BK480 := n5_; have GW480 := n6_; have GE480 := n7_; have NB461_480 := n8_; have NB480_461 := n9_; clear n0_ n1_ n2_ n3_ n4_ n5_ n6_ n7_ n8_ n9_; clear hb hbox hg; have hnb42 := NB480_461.out; have hnc42 := NB461_480.out; have hcz43_0 : w41.cell? ⟨gb480, 0, none⟩ = some (.int .i64 0) := (blk_cell BK480.out 0).trans rfl; have hcz43_1 : w41.cell? ⟨gb480, 1, none⟩ = some (.int .i64 0) := (blk_cell BK480.out 1).trans rfl; have hfz43_0 := blk_frozen BK480.out 0; have hfz43_1 := blk_frozen BK480.out 1) | ((with_reducible refine gate_callee (f := 25) rfl ?_); refine goesL_ (some 109) rfl rfl Try.func25 (by kernel_rfl) rfl #[.slice (some ad477) t456.length co13, .agg #[.int .i64 (-10000), .int .i64 t460]] rfl (by (try simp only [List.map_toArray, List.map_cons, List.map_nil]); first | done | rfl | (simp only [List.length_drop, List.length_take]; rfl)) ?_; (with_reducible refine (impl_PolyPlace.calls _ _ t456 (-10000) t460 t481 t482 _ ?side1 ?side2 A30.out).mono ?_); (case side1 => refine (Kd.Q_reads' (e := 32) (base := w.heap.size) (ok := fun k_ => (((k_ ≠ gb461 ∧ some k_ ≠ (.slice Ao33 t466.length co33 : Value).ownBlock) ∧ some k_ ≠ (.slice Ao37 t472.length co37 : Value).ownBlock) ∧ k_ ≠ gb480)) (n := t456.length) (c := co13) ?_).2.2; exact (by (with_reducible repeat (first | apply Kd.Q_alloc | apply Kd.Q_drewN | apply Kd.Q_drew)); exact (Kd.Q_mono (Kd.Q_far (p := ⟨gb480, 1, none⟩) (Kd.Q_far (p := ⟨gb480, 0, none⟩) (Kd.Q_mono HO_5.out (fun k_ hk => (⟨hk, hk.2⟩ : _ ∧ k_ ≠ gb480))) (fun _ hk => hk.2) (.int .i64 (-10000))) (fun _ hk => hk.2) (.int .i64 t460)) (fun _ h_ => h_.1)))); (case side2 => exact (Kd.Q_reads' HO_5.out).2.1); rintro e w44 ⟨rfl, hb⟩; refine ⟨_, rfl, ?_⟩; have n0_ := Aside0.mk (Kd.Q_below (by (with_reducible repeat (first | apply Kd.Q_alloc | apply Kd.Q_drewN | apply Kd.Q_drew)); exact (Kd.Q_mono (Kd.Q_far (p := ⟨gb480, 1, none⟩) (Kd.Q_far (p := ⟨gb480, 0, none⟩) (Kd.Q_mono HO_5.out (fun k_ hk => (⟨hk, hk.2⟩ : _ ∧ k_ ≠ gb480))) (fun _ hk => hk.2) (.int .i64 (-10000))) (fun _ hk => hk.2) (.int .i64 t460)) (fun _ h_ => h_.1))) hb); have n1_ := Aside0.mk (Kd.R_below (by (with_reducible repeat (first | apply Kd.R_alloc | apply Kd.R_drewN | apply Kd.R_drew)); exact (Kd.R_mono (Kd.R_far (p := ⟨gb480, 1, none⟩) (Kd.R_far (p := ⟨gb480, 0, none⟩) (Kd.R_mono HO469.out (fun k_ hk => (⟨hk, hk.2⟩ : _ ∧ k_ ≠ gb480))) (fun _ hk => hk.2) (.int .i64 (-10000))) (fun _ hk => hk.2) (.int .i64 t460)) (fun _ h_ => h_.1))) hb); have n2_ := Aside0.mk (Kd.R_below (by (with_reducible repeat (first | apply Kd.R_alloc | apply Kd.R_drewN | apply Kd.R_drew)); exact (Kd.R_mono (Kd.R_far (p := ⟨gb480, 1, none⟩) (Kd.R_far (p := ⟨gb480, 0, none⟩) (Kd.R_mono HO474.out (fun k_ hk => (⟨hk, hk.2⟩ : _ ∧ k_ ≠ gb480))) (fun _ hk => hk.2) (.int .i64 (-10000))) (fun _ hk => hk.2) (.int .i64 t460)) (fun _ h_ => h_.1))) hb); have n3_ := Aside0.mk (blk_below (g := gb461) (o := .cells #[.int .i64 t459, .int .i64 t460] 32 (0, 0)) (by (with_reducible repeat (first | refine blk_drewN ?_ _ | refine blk_drew ?_ | refine blk_alloc ?_ _)); refine blk_far ?_ NB461_480.out _; (with_reducible repeat (first | refine blk_drewN ?_ _ | refine blk_drew ?_ | refine blk_alloc ?_ _)); refine blk_far ?_ NB461_480.out _; (with_reducible repeat (first | refine blk_drewN ?_ _ | refine blk_drew ?_ | refine blk_alloc ?_ _)); exact BK461.out) hb); have n4_ := Aside0.mk (blk_below (g := gb480) (o := .cells #[.int .i64 (-10000), .int .i64 t460] 32 (0, 0)) (by (with_reducible repeat (first | refine blk_drewN ?_ _ | refine blk_drew ?_ | refine blk_alloc ?_ _)); refine blk_put (cs := #[.int .i64 (-10000), .int .i64 0]) ?_ 1 _ rfl; (with_reducible repeat (first | refine blk_drewN ?_ _ | refine blk_drew ?_ | refine blk_alloc ?_ _)); refine blk_put (cs := #[.int .i64 0, .int .i64 0]) ?_ 0 _ rfl; (with_reducible repeat (first | refine blk_drewN ?_ _ | refine blk_drew ?_ | refine blk_alloc ?_ _)); exact BK480.out) hb); have n5_ := Aside0.mk (below_step (by repeat (first | (with_reducible first | exact HB.out | apply below_alloc | apply pw_below_drewN | apply below_drew1 | refine below_set ?_ GE461.out | refine below_set ?_ GE480.out) | exact HB.out)) hb); clear HO_5; clear HO469; clear HO474; clear BK461; clear BK480; clear HB; have HO_5 := n0_; have HO469 := n1_; have HO474 := n2_; have BK461 := n3_; have BK480 := n4_; have HB := n5_; clear n0_ n1_ n2_ n3_ n4_ n5_; (try clear hb); (try clear hb2); (try clear hk); (try clear hi)))
                    go_loopg [23, 24] kj8 (fun kq v23 v24 w' => ∃ (x23_3 : Bool) (x24_3 : Int), v23 = .bool x23_3 ∧ v24 = .int .i64 x24_3 ∧ Aside0 (laws_FnPolyPlace.l0 kq t456 t462 t467 t470 t471 t475 t476 t478 t479 t481 t482 x23_3 x24_3 (-10000) t460 = some r) ∧ Aside0 (kq ≤ kj8) ∧ Aside0 (Kd.Q k32 32 w' w.heap.size (fun k_ => k_ ≠ gb461 ∧ k_ ≠ gb480) (.slice (some ad477) t456.length co13) t456) ∧ Aside0 (w'.heap[gb461]? = some (.cells #[.int .i64 t459, .int .i64 t460] 32 (0, 0))) ∧ Aside0 (w'.heap[gb480]? = some (.cells #[.int .i64 (-10000), .int .i64 t460] 32 (0, 0))) ∧ Aside0 (Below w.heap.size w w'))
                    case atStart => exact ⟨(true), (0), (by first | rfl | (simp; done) | (simp [*]; done)), (by first | rfl | (simp; done) | (simp [*]; done)), H', ⟨Nat.le_refl _⟩, ⟨by (with_reducible repeat (first | apply Kd.Q_alloc | apply Kd.Q_drewN | apply Kd.Q_drew)); exact Kd.Q_mono HO_5.out (fun _ hk => ⟨hk.1.1.1, hk.2⟩)⟩, ⟨by (with_reducible repeat (first | refine blk_drewN ?_ _ | refine blk_drew ?_ | refine blk_alloc ?_ _)); exact BK461.out⟩, ⟨by (with_reducible repeat (first | refine blk_drewN ?_ _ | refine blk_drew ?_ | refine blk_alloc ?_ _)); exact BK480.out⟩, ⟨by repeat (first | (with_reducible first | exact HB.out | apply below_alloc | apply pw_below_drewN | apply below_drew1 | refine below_set ?_ GE461.out | refine below_set ?_ GE480.out) | exact HB.out)⟩⟩
                    case round =>
                      clear H'
                      try clear c1
                      try clear c2
                      try clear p2
                      try clear c4
                      try clear c4b0
                      try clear c4b1
                      try clear p4
                      try clear q4
                      try clear hx4
                      try clear c5
                      try clear c6
                      try clear c14
                      try clear c15
                      try clear c17
                      try clear c17b0
                      try clear c17b1
                      try clear c17b2
                      try clear c18
                      try clear c18b0
                      try clear c18b1
                      try clear c19
                      try clear c20
                      try clear c20b0
                      try clear c20b1
                      try clear c20b2
                      try clear c21
                      try clear c21b0
                      try clear c21b1
                      try clear c21b2
                      try clear c24
                      try clear c25
                      try clear c26
                      try clear c27
                      try clear c27b0
                      try clear c28
                      try clear c28b0
                      try clear c42
                      try clear hcz12_0
                      try clear hcz12_1
                      try clear hcz15_0
                      try clear hcz15_1
                      try clear hcz32_0
                      try clear hcz32_1
                      try clear hcz40_0
                      try clear hcz40_1
                      try clear hcz43_0
                      try clear hcz43_1
                      try clear hfz12_0
                      try clear hfz12_1
                      try clear hfz15_0
                      try clear hfz15_1
                      try clear hfz32_0
                      try clear hfz32_1
                      try clear hfz40_0
                      try clear hfz40_1
                      try clear hfz43_0
                      try clear hfz43_1
                      try clear hx477_0
                      try clear hx477_1
                      try clear p2
                      try clear p477
                      try clear q477
                      obtain ⟨x23_3, x24_3, rfl, rfl, HA, HK3, HO_5, BK461, BK480, HB⟩ := hrel
                      cases gk with
                      | zero => exact absurd HA.out (by simp [laws_FnPolyPlace.l0])
                      | succ k3 =>
                        have H := HA.out
                        clear HA
                        simp only [laws_FnPolyPlace.l0] at H
                        by_cases c45 : x24_3 < (t456.length : Int)
                        · rw [if_pos c45] at H
                          have c45b0 : decide (x24_3 < (t456.length : Int)) = true := decide_eq_true c45
                          clear c45
                          by_cases c46 : x23_3 = true
                          · subst c46
                            have H1 : (if 0 ≤ x24_3 then (laws_FnPolyPlace.l0 k3 t456 t462 t467 t470 t471 t475 t476 t478 t479 t481 t482 (decide (((rd_T32 t456 x24_3).f0) > (-10000))) (wrap64 (x24_3 + 1)) (-10000) t460) else (none)) = some r := by rw [if_pos rfl] at H; exact H
                            clear H
                            have H := H1
                            clear H1
                            by_cases c47 : 0 ≤ x24_3
                            · rw [if_pos c47] at H
                              have c47b0 : decide (0 ≤ x24_3) = true := decide_eq_true c47
                              clear c47
                              have H' := Aside0.mk H
                              clear H
                              try go_wp2
                              have n0_ := Aside0.mk (Kd.Q_drew HO_5.out)
                              have n1_ := Aside0.mk (blk_drew BK461.out)
                              have n2_ := Aside0.mk (blk_drew BK480.out)
                              have n3_ := Aside0.mk (below_drew1 HB.out)
                              clear HO_5
                              clear BK461
                              clear BK480
                              clear HB
                              have HO_5 := n0_
                              have BK461 := n1_
                              have BK480 := n2_
                              have HB := n3_
                              clear n0_ n1_ n2_ n3_
                              have p483 : 0 ≤ (x24_3 : Int) := of_decide_eq_true (by first | (with_reducible assumption) | assumption)
                              have q483 : x24_3 < (t456.length : Int) := of_decide_eq_true (by first | (with_reducible assumption) | assumption)
                              obtain ⟨ad483, e483, hx483_0, hx483_1⟩ := at_T32 (Kd.Q_reads' HO_5.out).2.2 x24_3 p483 q483
                              obtain rfl : ad477 = ad483 := (by injection e483)
                              replace p483 := eq_true p483
                              replace q483 := eq_true q483
                              refine start_ (n := 12) (S := fun w' => w'.cell? ⟨gb480, 0, none⟩ = some (.int .i64 (-10000)) ∧ w'.cell? ⟨gb480, 1, none⟩ = some (.int .i64 t460) ∧ w'.cell? (ad477.add ((x24_3).toNat * 2)) = some (.int .i64 ((rd_T32 t456 x24_3).f0)) ∧ w'.cell? ⟨(ad477.add ((x24_3).toNat * 2)).block, (ad477.add ((x24_3).toNat * 2)).off + 1, none⟩ = some (.int .i64 ((rd_T32 t456 x24_3).f1))) (ds := []) #[false, false, false, false, false, false, false, false, false, false, false, false] (by kernel_rfl) rfl rfl ⟨(blk_cell BK480.out 0).trans rfl, (blk_cell BK480.out 1).trans rfl, hx483_0, hx483_1⟩ (fun hHeld => ?_); refine with_tabW laws_FnPolyPlace.tab19 laws_FnPolyPlace.bits19 (fun HT_ HW_ => ?_)
                              generalize wr.drew = w48 at HO_5 BK461 BK480 HB hx483_0 hx483_1 hHeld ⊢
                              refine pure_ (i := 0) (N := some 118) (v := ?_) (a' := ?_) #[true, false, false, false, false, false, false, false, false, false, false, false] rfl rfl (any_of HT_.out (by kernel_rfl)) (fun _ _ _ h => h) (Or.inl ⟨by rfl, ?_⟩) ?_ ?_
                              rotate_left
                              · intro w'
                                go_simp
                                with_reducible rfl
                              rotate_left
                              · simp only [Act.put, List.setIfInBounds_toArray, List.set_cons_zero, List.set_cons_succ, i64_w, i32_w]
                                rfl
                              refine pure_ (i := 1) (N := some 119) (v := ?_) (a' := ?_) #[true, true, false, false, false, false, false, false, false, false, false, false] rfl rfl (any_of HT_.out (by kernel_rfl)) (fun _ _ _ h => h) (Or.inl ⟨by rfl, ?_⟩) ?_ ?_
                              rotate_left
                              · intro w'
                                go_simp
                                with_reducible rfl
                              rotate_left
                              · simp only [Act.put, List.setIfInBounds_toArray, List.set_cons_zero, List.set_cons_succ, i64_w, i32_w]
                                rfl
                              refine pure_ (i := 2) (N := some 120) (v := ?_) (a' := ?_) #[true, true, true, false, false, false, false, false, false, false, false, false] rfl rfl (any_of HT_.out (by kernel_rfl)) (fun _ _ _ h => h) (Or.inl ⟨by rfl, ?_⟩) ?_ ?_
                              rotate_left
                              · intro w'
                                go_simp
                                with_reducible rfl
                              rotate_left
                              · simp only [Act.put, List.setIfInBounds_toArray, List.set_cons_zero, List.set_cons_succ, i64_w, i32_w]
                                rfl
                              refine pure_ (i := 3) (N := some 121) (v := ?_) (a' := ?_) #[true, true, true, true, false, false, false, false, false, false, false, false] rfl rfl (any_of HT_.out (by kernel_rfl)) (fun _ _ _ h => h) (Or.inl ⟨by rfl, ?_⟩) ?_ ?_
                              rotate_left
                              · intro w'
                                go_simp
                                with_reducible rfl
                              rotate_left
                              · simp only [Act.put, List.setIfInBounds_toArray, List.set_cons_zero, List.set_cons_succ, i64_w, i32_w]
                                rfl
                              refine pure_ (i := 4) (N := some 122) (v := ?_) (a' := ?_) #[true, true, true, true, true, false, false, false, false, false, false, false] rfl rfl (any_of HT_.out (by kernel_rfl)) (fun _ _ _ h => h) (Or.inl ⟨by rfl, ?_⟩) ?_ ?_
                              rotate_left
                              · intro w'
                                go_simp
                                with_reducible rfl
                              rotate_left
                              · simp only [Act.put, List.setIfInBounds_toArray, List.set_cons_zero, List.set_cons_succ, i64_w, i32_w]
                                rfl
                              refine pure_ (i := 5) (N := some 123) (v := ?_) (a' := ?_) #[true, true, true, true, true, true, false, false, false, false, false, false] rfl rfl (any_of HT_.out (by kernel_rfl)) (fun _ _ _ h => h) (Or.inl ⟨by rfl, ?_⟩) ?_ ?_
                              rotate_left
                              · intro w'
                                go_simp
                                with_reducible rfl
                              rotate_left
                              · simp only [Act.put, List.setIfInBounds_toArray, List.set_cons_zero, List.set_cons_succ, i64_w, i32_w]
                                rfl
                              refine pure_ (i := 7) (N := some 125) (v := ?_) (a' := ?_) #[true, true, true, true, true, true, false, true, false, false, false, false] rfl rfl (any_of HT_.out (by kernel_rfl)) (fun _ _ _ h => h) (Or.inl ⟨by rfl, ?_⟩) ?_ ?_
                              rotate_left
                              · intro w'
                                go_simp
                                with_reducible rfl
                              rotate_left
                              · simp only [Act.put, List.setIfInBounds_toArray, List.set_cons_zero, List.set_cons_succ, i64_w, i32_w]
                                rfl
                              refine take_ (i := 6) (N := some 124) (v := ?_) (a' := ?_) #[true, true, true, true, true, true, true, true, false, false, false, false] rfl rfl (take_ofW HT_.out HW_.out (by kernel_rfl)) (fun _ _ _ h => h) (Or.inl ⟨by rfl, ?_⟩) hHeld ?_ ?_
                              rotate_left
                              · rintro w' ⟨s0, s1, s2, s3⟩
                                go_simp
                                with_reducible rfl
                              rotate_left
                              · simp only [Act.put, List.setIfInBounds_toArray, List.set_cons_zero, List.set_cons_succ, i64_w, i32_w]
                                rfl
                              refine take_ (i := 8) (N := some 126) (v := ?_) (a' := ?_) #[true, true, true, true, true, true, true, true, true, false, false, false] rfl rfl (take_ofW HT_.out HW_.out (by kernel_rfl)) (fun _ _ _ h => h) (Or.inl ⟨by rfl, ?_⟩) hHeld ?_ ?_
                              rotate_left
                              · rintro w' ⟨s0, s1, s2, s3⟩
                                go_simp
                                with_reducible rfl
                              rotate_left
                              · simp only [Act.put, List.setIfInBounds_toArray, List.set_cons_zero, List.set_cons_succ, i64_w, i32_w]
                                rfl
                              refine pure_ (i := 9) (N := some 127) (v := ?_) (a' := ?_) #[true, true, true, true, true, true, true, true, true, true, false, false] rfl rfl (any_of HT_.out (by kernel_rfl)) (fun _ _ _ h => h) (Or.inl ⟨by rfl, ?_⟩) ?_ ?_
                              rotate_left
                              · intro w'
                                go_simp
                                with_reducible rfl
                              rotate_left
                              · simp only [Act.put, List.setIfInBounds_toArray, List.set_cons_zero, List.set_cons_succ, i64_w, i32_w]
                                rfl
                              refine pure_ (i := 10) (N := some 128) (v := ?_) (a' := ?_) #[true, true, true, true, true, true, true, true, true, true, true, false] rfl rfl (any_of HT_.out (by kernel_rfl)) (fun _ _ _ h => h) (Or.inl ⟨by rfl, ?_⟩) ?_ ?_
                              rotate_left
                              · intro w'
                                go_simp
                                with_reducible rfl
                              rotate_left
                              · simp only [Act.put, List.setIfInBounds_toArray, List.set_cons_zero, List.set_cons_succ, i64_w, i32_w]
                                rfl
                              refine pure_ (i := 11) (N := some 23) (v := ?_) (a' := ?_) #[true, true, true, true, true, true, true, true, true, true, true, true] rfl rfl (any_of HT_.out (by kernel_rfl)) (fun _ _ _ h => h) (Or.inl ⟨by rfl, ?_⟩) ?_ ?_
                              rotate_left
                              · intro w'
                                go_simp
                                with_reducible rfl
                              rotate_left
                              · simp only [Act.put, List.setIfInBounds_toArray, List.set_cons_zero, List.set_cons_succ, i64_w, i32_w]
                                rfl
                              refine done_ (done_of HT_.out (by kernel_rfl)) ?_
                              try go_wp2
                              go_roundg k3
                              case measure => have := HJ2.out; have := HJ8.out; have := HK3.out; omega
                              case rel => exact ⟨(decide (((rd_T32 t456 x24_3).f0) > (-10000))), (wrap64 (x24_3 + 1)), (by first | rfl | (simp; done) | (simp [*]; done)), (by first | rfl | (simp; done) | (simp [*]; done)), H', ⟨by have := HJ2.out; have := HJ8.out; have := HK3.out; omega⟩, ⟨by (with_reducible repeat (first | apply Kd.Q_alloc | apply Kd.Q_drewN | apply Kd.Q_drew)); exact HO_5.out⟩, ⟨by (with_reducible repeat (first | refine blk_drewN ?_ _ | refine blk_drew ?_ | refine blk_alloc ?_ _)); exact BK461.out⟩, ⟨by (with_reducible repeat (first | refine blk_drewN ?_ _ | refine blk_drew ?_ | refine blk_alloc ?_ _)); exact BK480.out⟩, ⟨by repeat (first | (with_reducible first | exact HB.out | apply below_alloc | apply pw_below_drewN | apply below_drew1 | refine below_set ?_ GE461.out | refine below_set ?_ GE480.out) | exact HB.out)⟩⟩
                            · rw [if_neg c47] at H
                              exact absurd H (by simp)
                          · replace c46 := Bool.eq_false_iff.mpr c46
                            subst c46
                            have H1 : (laws_FnPolyPlace.l0 k3 t456 t462 t467 t470 t471 t475 t476 t478 t479 t481 t482 false (wrap64 (x24_3 + 1)) (-10000) t460) = some r := by rw [if_neg (show ¬ (false = true) by decide)] at H; exact H
                            clear H
                            have H := H1
                            clear H1
                            have H' := Aside0.mk H
                            clear H
                            try go_wp2
                            have n0_ := Aside0.mk (Kd.Q_drew HO_5.out)
                            have n1_ := Aside0.mk (blk_drew BK461.out)
                            have n2_ := Aside0.mk (blk_drew BK480.out)
                            have n3_ := Aside0.mk (below_drew1 HB.out)
                            clear HO_5
                            clear BK461
                            clear BK480
                            clear HB
                            have HO_5 := n0_
                            have BK461 := n1_
                            have BK480 := n2_
                            have HB := n3_
                            clear n0_ n1_ n2_ n3_
                            refine start_ (n := 12) (S := fun w' => True) (ds := []) #[false, false, false, false, false, false, false, false, false, false, false, false] (by kernel_rfl) rfl rfl trivial (fun hHeld => ?_); refine with_tabW laws_FnPolyPlace.tab19 laws_FnPolyPlace.bits19 (fun HT_ HW_ => ?_)
                            generalize wr.drew = w49 at HO_5 BK461 BK480 HB hHeld ⊢
                            refine pure_ (i := 0) (N := some 118) (v := ?_) (a' := ?_) #[true, false, false, false, false, false, false, false, false, false, false, false] rfl rfl (any_of HT_.out (by kernel_rfl)) (fun _ _ _ h => h) (Or.inl ⟨by rfl, ?_⟩) ?_ ?_
                            rotate_left
                            · intro w'
                              go_simp
                              with_reducible rfl
                            rotate_left
                            · simp only [Act.put, List.setIfInBounds_toArray, List.set_cons_zero, List.set_cons_succ, i64_w, i32_w]
                              rfl
                            refine pure_ (i := 1) (N := some 119) (v := ?_) (a' := ?_) #[true, true, false, false, false, false, false, false, false, false, false, false] rfl rfl (any_of HT_.out (by kernel_rfl)) (fun _ _ _ h => h) (Or.inl ⟨by rfl, ?_⟩) ?_ ?_
                            rotate_left
                            · intro w'
                              go_simp
                              with_reducible rfl
                            rotate_left
                            · simp only [Act.put, List.setIfInBounds_toArray, List.set_cons_zero, List.set_cons_succ, i64_w, i32_w]
                              rfl
                            refine pure_ (i := 2) (N := some 120) (v := undef) (a' := ?_) #[true, true, true, false, false, false, false, false, false, false, false, false] rfl rfl (any_of HT_.out (by kernel_rfl)) (fun _ _ _ h => h) (Or.inr ⟨by rfl, rfl⟩) ?_ ?_
                            rotate_left
                            · simp only [Act.put, List.setIfInBounds_toArray, List.set_cons_zero, List.set_cons_succ, i64_w, i32_w]
                              rfl
                            refine pure_ (i := 3) (N := some 121) (v := undef) (a' := ?_) #[true, true, true, true, false, false, false, false, false, false, false, false] rfl rfl (any_of HT_.out (by kernel_rfl)) (fun _ _ _ h => h) (Or.inr ⟨by rfl, rfl⟩) ?_ ?_
                            rotate_left
                            · simp only [Act.put, List.setIfInBounds_toArray, List.set_cons_zero, List.set_cons_succ, i64_w, i32_w]
                              rfl
                            refine pure_ (i := 4) (N := some 122) (v := undef) (a' := ?_) #[true, true, true, true, true, false, false, false, false, false, false, false] rfl rfl (any_of HT_.out (by kernel_rfl)) (fun _ _ _ h => h) (Or.inr ⟨by rfl, rfl⟩) ?_ ?_
                            rotate_left
                            · simp only [Act.put, List.setIfInBounds_toArray, List.set_cons_zero, List.set_cons_succ, i64_w, i32_w]
                              rfl
                            refine pure_ (i := 5) (N := some 123) (v := undef) (a' := ?_) #[true, true, true, true, true, true, false, false, false, false, false, false] rfl rfl (any_of HT_.out (by kernel_rfl)) (fun _ _ _ h => h) (Or.inr ⟨by rfl, rfl⟩) ?_ ?_
                            rotate_left
                            · simp only [Act.put, List.setIfInBounds_toArray, List.set_cons_zero, List.set_cons_succ, i64_w, i32_w]
                              rfl
                            refine pure_ (i := 6) (N := some 124) (v := undef) (a' := ?_) #[true, true, true, true, true, true, true, false, false, false, false, false] rfl rfl (any_of HT_.out (by kernel_rfl)) (fun _ _ _ h => h) (Or.inr ⟨by rfl, rfl⟩) ?_ ?_
                            rotate_left
                            · simp only [Act.put, List.setIfInBounds_toArray, List.set_cons_zero, List.set_cons_succ, i64_w, i32_w]
                              rfl
                            refine pure_ (i := 7) (N := some 125) (v := undef) (a' := ?_) #[true, true, true, true, true, true, true, true, false, false, false, false] rfl rfl (any_of HT_.out (by kernel_rfl)) (fun _ _ _ h => h) (Or.inr ⟨by rfl, rfl⟩) ?_ ?_
                            rotate_left
                            · simp only [Act.put, List.setIfInBounds_toArray, List.set_cons_zero, List.set_cons_succ, i64_w, i32_w]
                              rfl
                            refine pure_ (i := 8) (N := some 126) (v := undef) (a' := ?_) #[true, true, true, true, true, true, true, true, true, false, false, false] rfl rfl (any_of HT_.out (by kernel_rfl)) (fun _ _ _ h => h) (Or.inr ⟨by rfl, rfl⟩) ?_ ?_
                            rotate_left
                            · simp only [Act.put, List.setIfInBounds_toArray, List.set_cons_zero, List.set_cons_succ, i64_w, i32_w]
                              rfl
                            refine pure_ (i := 9) (N := some 127) (v := undef) (a' := ?_) #[true, true, true, true, true, true, true, true, true, true, false, false] rfl rfl (any_of HT_.out (by kernel_rfl)) (fun _ _ _ h => h) (Or.inr ⟨by rfl, rfl⟩) ?_ ?_
                            rotate_left
                            · simp only [Act.put, List.setIfInBounds_toArray, List.set_cons_zero, List.set_cons_succ, i64_w, i32_w]
                              rfl
                            refine pure_ (i := 10) (N := some 128) (v := ?_) (a' := ?_) #[true, true, true, true, true, true, true, true, true, true, true, false] rfl rfl (any_of HT_.out (by kernel_rfl)) (fun _ _ _ h => h) (Or.inl ⟨by rfl, ?_⟩) ?_ ?_
                            rotate_left
                            · intro w'
                              go_simp
                              with_reducible rfl
                            rotate_left
                            · simp only [Act.put, List.setIfInBounds_toArray, List.set_cons_zero, List.set_cons_succ, i64_w, i32_w]
                              rfl
                            refine pure_ (i := 11) (N := some 23) (v := ?_) (a' := ?_) #[true, true, true, true, true, true, true, true, true, true, true, true] rfl rfl (any_of HT_.out (by kernel_rfl)) (fun _ _ _ h => h) (Or.inl ⟨by rfl, ?_⟩) ?_ ?_
                            rotate_left
                            · intro w'
                              go_simp
                              with_reducible rfl
                            rotate_left
                            · simp only [Act.put, List.setIfInBounds_toArray, List.set_cons_zero, List.set_cons_succ, i64_w, i32_w]
                              rfl
                            refine done_ (done_of HT_.out (by kernel_rfl)) ?_
                            try go_wp2
                            go_roundg k3
                            case measure => have := HJ2.out; have := HJ8.out; have := HK3.out; omega
                            case rel => exact ⟨(false), (wrap64 (x24_3 + 1)), (by first | rfl | (simp; done) | (simp [*]; done)), (by first | rfl | (simp; done) | (simp [*]; done)), H', ⟨by have := HJ2.out; have := HJ8.out; have := HK3.out; omega⟩, ⟨by (with_reducible repeat (first | apply Kd.Q_alloc | apply Kd.Q_drewN | apply Kd.Q_drew)); exact HO_5.out⟩, ⟨by (with_reducible repeat (first | refine blk_drewN ?_ _ | refine blk_drew ?_ | refine blk_alloc ?_ _)); exact BK461.out⟩, ⟨by (with_reducible repeat (first | refine blk_drewN ?_ _ | refine blk_drew ?_ | refine blk_alloc ?_ _)); exact BK480.out⟩, ⟨by repeat (first | (with_reducible first | exact HB.out | apply below_alloc | apply pw_below_drewN | apply below_drew1 | refine below_set ?_ GE461.out | refine below_set ?_ GE480.out) | exact HB.out)⟩⟩
                        · rw [if_neg c45] at H
                          have c45b0 : decide (x24_3 < (t456.length : Int)) = false := decide_eq_false c45
                          clear c45
                          by_cases c50 : t467 = true
                          · subst c50
                            have H1 : (if t471 = true then (if t476 = true then (if t479 = true then (if t482 = true then (if t470 = t462 then (if t475 = t462 then (if t478 = 0 then (if x23_3 = true then (some (t481 == (-1))) else (some true)) else (some false)) else (some false)) else (some false)) else (some false)) else (some false)) else (some false)) else (some false)) = some r := by rw [if_pos rfl] at H; exact H
                            clear H
                            have H := H1
                            clear H1
                            by_cases c51 : t471 = true
                            · subst c51
                              have H1 : (if t476 = true then (if t479 = true then (if t482 = true then (if t470 = t462 then (if t475 = t462 then (if t478 = 0 then (if x23_3 = true then (some (t481 == (-1))) else (some true)) else (some false)) else (some false)) else (some false)) else (some false)) else (some false)) else (some false)) = some r := by rw [if_pos rfl] at H; exact H
                              clear H
                              have H := H1
                              clear H1
                              by_cases c52 : t476 = true
                              · subst c52
                                have H1 : (if t479 = true then (if t482 = true then (if t470 = t462 then (if t475 = t462 then (if t478 = 0 then (if x23_3 = true then (some (t481 == (-1))) else (some true)) else (some false)) else (some false)) else (some false)) else (some false)) else (some false)) = some r := by rw [if_pos rfl] at H; exact H
                                clear H
                                have H := H1
                                clear H1
                                by_cases c53 : t479 = true
                                · subst c53
                                  have H1 : (if t482 = true then (if t470 = t462 then (if t475 = t462 then (if t478 = 0 then (if x23_3 = true then (some (t481 == (-1))) else (some true)) else (some false)) else (some false)) else (some false)) else (some false)) = some r := by rw [if_pos rfl] at H; exact H
                                  clear H
                                  have H := H1
                                  clear H1
                                  by_cases c54 : t482 = true
                                  · subst c54
                                    have H1 : (if t470 = t462 then (if t475 = t462 then (if t478 = 0 then (if x23_3 = true then (some (t481 == (-1))) else (some true)) else (some false)) else (some false)) else (some false)) = some r := by rw [if_pos rfl] at H; exact H
                                    clear H
                                    have H := H1
                                    clear H1
                                    by_cases c55 : t470 = t462
                                    · rw [if_pos c55] at H
                                      have c55b0 : (t470 == t462) = true := beq_iff_eq.mpr c55
                                      have c55b1 : (t470 != t462) = false := bne_eq_false_iff_eq.mpr c55
                                      clear c55
                                      by_cases c56 : t475 = t462
                                      · rw [if_pos c56] at H
                                        have c56b0 : (t475 == t462) = true := beq_iff_eq.mpr c56
                                        have c56b1 : (t475 != t462) = false := bne_eq_false_iff_eq.mpr c56
                                        clear c56
                                        by_cases c57 : t478 = 0
                                        · rw [if_pos c57] at H
                                          have c57b0 : (t478 == 0) = true := beq_iff_eq.mpr c57
                                          have c57b1 : (t478 != 0) = false := bne_eq_false_iff_eq.mpr c57
                                          clear c57
                                          by_cases c58 : x23_3 = true
                                          · subst c58
                                            have H1 : (some (t481 == (-1))) = some r := by rw [if_pos rfl] at H; exact H
                                            clear H
                                            have H := H1
                                            clear H1
                                            obtain rfl := Option.some.inj H
                                            go_wp2
                                            go_ret
                                            exact ⟨by first | rfl | (simp [errW_none, errW_some] <;> rfl) | (simp only [← hji26]; first | rfl | (simp [errW_none, errW_some] <;> rfl)) | (simp [*, errW_none, errW_some] <;> rfl), by repeat (first | (with_reducible first | exact HB.out | apply below_alloc | apply pw_below_drewN | apply below_drew1 | refine below_set ?_ GE461.out | refine below_set ?_ GE480.out) | exact HB.out)⟩
                                          · replace c58 := Bool.eq_false_iff.mpr c58
                                            subst c58
                                            have H1 : (some true) = some r := by rw [if_neg (show ¬ (false = true) by decide)] at H; exact H
                                            clear H
                                            have H := H1
                                            clear H1
                                            obtain rfl := Option.some.inj H
                                            go_wp2
                                            go_ret
                                            exact ⟨by first | rfl | (simp [errW_none, errW_some] <;> rfl) | (simp only [← hji26]; first | rfl | (simp [errW_none, errW_some] <;> rfl)) | (simp [*, errW_none, errW_some] <;> rfl), by repeat (first | (with_reducible first | exact HB.out | apply below_alloc | apply pw_below_drewN | apply below_drew1 | refine below_set ?_ GE461.out | refine below_set ?_ GE480.out) | exact HB.out)⟩
                                        · rw [if_neg c57] at H
                                          have c57b0 : (t478 == 0) = false := beq_eq_false_iff_ne.mpr c57
                                          have c57b1 : (t478 != 0) = true := bne_iff_ne.mpr c57
                                          exact absurd ((Option.some.inj H).trans hT.out) (by decide)
                                      · rw [if_neg c56] at H
                                        have c56b0 : (t475 == t462) = false := beq_eq_false_iff_ne.mpr c56
                                        have c56b1 : (t475 != t462) = true := bne_iff_ne.mpr c56
                                        exact absurd ((Option.some.inj H).trans hT.out) (by decide)
                                    · rw [if_neg c55] at H
                                      have c55b0 : (t470 == t462) = false := beq_eq_false_iff_ne.mpr c55
                                      have c55b1 : (t470 != t462) = true := bne_iff_ne.mpr c55
                                      exact absurd ((Option.some.inj H).trans hT.out) (by decide)
                                  · replace c54 := Bool.eq_false_iff.mpr c54
                                    subst c54
                                    have H1 : (some false) = some r := by rw [if_neg (show ¬ (false = true) by decide)] at H; exact H
                                    clear H
                                    have H := H1
                                    clear H1
                                    exact absurd ((Option.some.inj H).trans hT.out) (by decide)
                                · replace c53 := Bool.eq_false_iff.mpr c53
                                  subst c53
                                  have H1 : (some false) = some r := by rw [if_neg (show ¬ (false = true) by decide)] at H; exact H
                                  clear H
                                  have H := H1
                                  clear H1
                                  exact absurd ((Option.some.inj H).trans hT.out) (by decide)
                              · replace c52 := Bool.eq_false_iff.mpr c52
                                subst c52
                                have H1 : (some false) = some r := by rw [if_neg (show ¬ (false = true) by decide)] at H; exact H
                                clear H
                                have H := H1
                                clear H1
                                exact absurd ((Option.some.inj H).trans hT.out) (by decide)
                            · replace c51 := Bool.eq_false_iff.mpr c51
                              subst c51
                              have H1 : (some false) = some r := by rw [if_neg (show ¬ (false = true) by decide)] at H; exact H
                              clear H
                              have H := H1
                              clear H1
                              exact absurd ((Option.some.inj H).trans hT.out) (by decide)
                          · replace c50 := Bool.eq_false_iff.mpr c50
                            subst c50
                            have H1 : (some false) = some r := by rw [if_neg (show ¬ (false = true) by decide)] at H; exact H
                            clear H
                            have H := H1
                            clear H1
                            exact absurd ((Option.some.inj H).trans hT.out) (by decide)
                  · rw [if_neg c28] at H
                    exact absurd H (by simp)
                · rw [if_neg c27] at H
                  exact absurd H (by simp)

/-- THE ONE PURE STATEMENT of laws_FnPolyPlace: yours. -/
def laws_FnPolyPlace.Pure : Prop := ∀ (l0 : List Int) (l1 : List Int), l0.length ≤ maxLen → l0.length * 1 ≤ 140737488351232 → (∀ x ∈ l0, (Lit.int .u8 x).wf = true) → l1.length ≤ maxLen → l1.length * 1 ≤ 140737488351232 → (∀ x ∈ l1, (Lit.int .u8 x).wf = true) → ∃ k, laws_FnPolyPlace.f k l0 l1 = some true
theorem laws_FnPolyPlace.walk (P : laws_FnPolyPlace.Pure) (a0 : Option Addr) (len0 cap0 : Nat) (z0 : List Int) (a1 : Option Addr) (len1 cap1 : Nat) (z1 : List Int) (w : World) (w0 : (a0 = none ∧ len0 = 0 ∧ cap0 = 0 ∧ z0 = []) ∨ ∃ x, a0 = some x ∧ len0 ≤ cap0 ∧ cap0 ≤ maxLen ∧ z0.length = cap0 ∧ (∀ i, i < z0.length → w.cell? (x.add i) = some (.int .u8 (z0.getD i 0))) ∧ ∀ n ∈ z0, (Lit.int .u8 n).wf = true) (y0 : len0 * 1 ≤ 140737488351232) (w1 : (a1 = none ∧ len1 = 0 ∧ cap1 = 0 ∧ z1 = []) ∨ ∃ x, a1 = some x ∧ len1 ≤ cap1 ∧ cap1 ≤ maxLen ∧ z1.length = cap1 ∧ (∀ i, i < z1.length → w.cell? (x.add i) = some (.int .u8 (z1.getD i 0))) ∧ ∀ n ∈ z1, (Lit.int .u8 n).wf = true) (y1 : len1 * 1 ≤ 140737488351232) :
    Calls Try.prog 6 #[.slice a0 len0 cap0, .slice a1 len1 cap1] w fun e w' => e = .returned (.bool true) ∧ Below w.heap.size w w' := by
  obtain ⟨l0, rfl, hr0, hm0, hw0, hc0⟩ := ReadsInt.ofRowC w0
  obtain ⟨l1, rfl, hr1, hm1, hw1, hc1⟩ := ReadsInt.ofRowC w1
  obtain ⟨k, h⟩ := P l0 l1 hm0 y0 hw0 hm1 y1 hw1
  refine (laws_FnPolyPlace.calls k _ _ l0 _ _ l1 true w (Kd.C_of_reads (d := (0 : Int)) (h1 := fun _ => rfl) hr0) hc0 (Kd.C_of_reads (d := (0 : Int)) (h1 := fun _ => rfl) hr1) hc1 h rfl).mono ?_
  rintro e w' ⟨rfl, hd⟩
  exact ⟨rfl, hd⟩

end Go.Proofs.Ytgdhgncdpmalcaa.Q
namespace Go.Proofs.Ytgdhgncdpmalcaa.Geo
set_option linter.unusedVariables false
/-! ### Sums -/
def sm (lo : Nat) : Nat → (Nat → Int) → Int
  | 0, _ => 0
  | k + 1, f => sm lo k f + f (lo + k)
theorem sm_congr {lo k : Nat} {f g : Nat → Int} (h : ∀ j, lo ≤ j → j < lo + k → f j = g j) : sm lo k f = sm lo k g := by
  induction k with
  | zero => rfl
  | succ k ih => simp only [sm]; rw [ih (fun j a b => h j a (by omega)), h (lo + k) (by omega) (by omega)]
theorem sm_tele (lo k : Nat) (f : Nat → Int) : sm lo k (fun j => f (j + 1) - f j) = f (lo + k) - f lo := by
  induction k with
  | zero => simp [sm]
  | succ k ih => simp only [sm]; rw [ih, show lo + (k + 1) = lo + k + 1 from rfl]; omega
theorem sm_first (lo k : Nat) (f : Nat → Int) : sm lo (k + 1) f = f lo + sm (lo + 1) k f := by
  induction k with
  | zero => simp [sm]
  | succ k ih => rw [sm, ih, sm, show lo + 1 + k = lo + (k + 1) from by omega]; omega
theorem sm_add (lo k : Nat) (f g : Nat → Int) : sm lo k (fun j => f j + g j) = sm lo k f + sm lo k g := by
  induction k with
  | zero => rfl
  | succ k ih => simp only [sm]; rw [ih]; omega
theorem sm_shift (lo k : Nat) (f : Nat → Int) (h : f (lo + k) = f lo) : sm (lo + 1) k f = sm lo k f := by
  have a := sm_first lo k f
  simp only [sm] at a
  omega
theorem sm_period {n : Nat} {f : Nat → Int} (h : ∀ i, f (i + n) = f i) (lo : Nat) : sm lo n f = sm 0 n f := by
  induction lo with
  | zero => rfl
  | succ lo ih => rw [sm_shift lo n f (h lo), ih]
theorem sm_rev (k : Nat) (f : Nat → Int) : sm 0 k (fun j => f (k - 1 - j)) = sm 0 k f := by
  induction k with
  | zero => rfl
  | succ k ih =>
    rw [sm_first, sm]
    have : sm (0 + 1) k (fun j => f (k + 1 - 1 - j)) = sm 0 k (fun j => f (k - 1 - j)) := by
      have sh : ∀ (m : Nat) (g h : Nat → Int), (∀ j, j < m → g (j + 1) = h j) → sm (0 + 1) m g = sm 0 m h := by
        intro m g h
        induction m with
        | zero => intro _; rfl
        | succ m ihm => intro hh; simp only [sm]; rw [ihm (fun j hj => hh j (by omega)), show 0 + 1 + m = m + 1 from by omega, hh m (by omega), Nat.zero_add]
      exact sh k _ _ (fun j hj => by rw [show k + 1 - 1 - (j + 1) = k - 1 - j from by omega])
    rw [this, ih, Nat.zero_add, show k + 1 - 1 - 0 = k from by omega]
    omega
theorem sm_sh (m lo : Nat) (g : Nat → Int) : sm lo m g = sm 0 m (fun j => g (lo + j)) := by
  induction m with
  | zero => rfl
  | succ m ih => simp only [sm]; rw [ih, Nat.zero_add]
end Go.Proofs.Ytgdhgncdpmalcaa.Geo
namespace Go.Proofs.Ytgdhgncdpmalcaa.Pure
open Go.RowKit Go.Proofs.Ytgdhgncdpmalcaa.Q Go.Proofs.YtgdhgncdpmalcaaW.PrintWords Go.Proofs.YtgdhgncdpmalcaaW.PrintLast
/-- The first corner, then the others from the last one on. -/
def backL : List Pt → List Pt
  | [] => []
  | p :: l => p :: l.reverse
theorem Back_same (l : List Pt) (k : Nat) : ∀ (x : List Pt) (i : Int), impl_PolyBack.l0 k l x i = spec_PolyBack.l0 k l x i := by
  induction k with
  | zero => intro x i; simp only [impl_PolyBack.l0, spec_PolyBack.l0]
  | succ k ih => intro x i; simp only [impl_PolyBack.l0, spec_PolyBack.l0, ih]
theorem Back_ok {p : Pt} {l : List Pt} (hl : l.length ≤ 100) (n : Nat) : ∀ (x : List Pt) (k : Nat), n < k → n ≤ l.length → x.length ≤ 200 - n → spec_PolyBack.l0 k (p :: l) x (n : Int) = some (x ++ (l.take n).reverse, true) := by
  induction n with
  | zero =>
    intro x k hk _ _
    obtain ⟨k, rfl⟩ : ∃ m, k = m + 1 := ⟨k - 1, by omega⟩
    rw [spec_PolyBack.l0, if_neg (by omega)]
    simp
  | succ n ih =>
    intro x k hk hn hx
    obtain ⟨k, rfl⟩ : ∃ m, k = m + 1 := ⟨k - 1, by omega⟩
    rw [spec_PolyBack.l0, if_pos (by omega), if_pos (by omega), if_pos (by simp; omega), if_pos (by omega), pw64 (by omega) (by omega), show ((n + 1 : Nat) : Int) - 1 = n by omega, ih _ k (by omega) (by omega) (by simp; omega)]
    have e : rd_T32 (p :: l) ((n + 1 : Nat) : Int) = l[n] := by simp [rd_T32, List.getElem?_eq_getElem (show n < l.length by omega)]
    have e2 : (l.take (n + 1)).reverse = l[n] :: (l.take n).reverse := by rw [List.take_add_one, List.getElem?_eq_getElem (show n < l.length by omega)]; simp
    rw [e, e2, List.append_assoc]
    rfl
theorem spec_PolyBack_eq (k : Nat) (l : List Pt) (hl : l.length ≤ 1048576) (hk : l.length + 30 < k) : spec_PolyBack.f k l = some (if cvB l = true then (backL l, true) else ([], false)) := by
  unfold spec_PolyBack.f
  rw [l31Points_eq _ _ hl (by omega)]
  simp only [Option.bind_some]
  by_cases h : cvB l = true
  · have hv := cvB_iff.1 h
    rw [if_pos h, if_pos h, if_pos (by omega)]
    cases l with
    | nil => simp at hv
    | cons p l =>
      simp only [List.length_cons] at hv hk hl ⊢
      rw [pw64 (by omega) (by omega), show ((l.length + 1 : Nat) : Int) - 1 = (l.length : Int) by omega, Back_ok (by omega) l.length _ _ (by omega) (by omega) (by simp; omega), List.take_length]
      rfl
  · rw [if_neg h, if_neg h]
theorem impl_PolyBack_eq (k : Nat) (l : List Pt) (hk : l.length + 30 < k) : impl_PolyBack.f k l = some (if cvB l = true then (backL l, true) else ([], false)) := by
  unfold impl_PolyBack.f
  rw [cornersValid_eq _ _ (by omega)]
  simp only [Option.bind_some]
  by_cases h : cvB l = true
  · have hv := cvB_iff.1 h
    rw [if_pos h, if_pos h, if_pos (by omega), if_pos (by omega), if_pos (by omega), if_pos (by simp)]
    cases l with
    | nil => simp at hv
    | cons p l =>
      simp only [List.length_cons] at hv hk ⊢
      rw [Back_same, pw64 (by omega) (by omega), show ((l.length + 1 : Nat) : Int) - 1 = (l.length : Int) by omega, Back_ok (by omega) l.length _ _ (by omega) (by omega) (by simp; omega), List.take_length]
      rfl
  · rw [if_neg h, if_neg h]
end Go.Proofs.Ytgdhgncdpmalcaa.Pure
namespace Go.Proofs.Ytgdhgncdpmalcaa.Pure
open Go.RowKit Go.Proofs.Ytgdhgncdpmalcaa.Q Go.Proofs.Ytgdhgncdpmalcaa.Ring Go.Proofs.Ytgdhgncdpmalcaa.Geo Go.Proofs.YtgdhgncdpmalcaaW.PrintWords Go.Proofs.YtgdhgncdpmalcaaW.PrintLast
/-- Corner i of a list, gone round as often as it takes. -/
def PC (l : List Pt) (i : Nat) : Pt := at_ l (i % l.length)
theorem PC_at {l : List Pt} {i : Nat} (h : i < l.length) : PC l i = at_ l i := by unfold PC; rw [Nat.mod_eq_of_lt h]
theorem PC_per (l : List Pt) (i : Nat) : PC l (i + l.length) = PC l i := by unfold PC; rw [Nat.add_mod_right]
theorem PC_nxt {l : List Pt} {i : Nat} : nxt l i = PC l (i + 1) := rfl
theorem at_mem {l : List Pt} {j : Nat} (hj : j < l.length) : at_ l j ∈ l := by unfold at_; rw [List.getD_eq_getElem?_getD, List.getElem?_eq_getElem hj]; exact List.getElem_mem hj
theorem cv_at {l : List Pt} (h : cvB l = true) (i : Nat) : (-10000 ≤ (PC l i).f0 ∧ (PC l i).f0 ≤ 10000) ∧ -10000 ≤ (PC l i).f1 ∧ (PC l i).f1 ≤ 10000 := by
  have hv := cvB_iff.1 h
  exact ptB_iff.1 (hv.2 _ (at_mem (Nat.mod_lt _ (by omega))))
/-! lists begun elsewhere -/
def begL (l : List Pt) (k : Nat) : List Pt := l.drop k ++ l.take k
theorem begL_length {l : List Pt} {k : Nat} (hk : k ≤ l.length) : (begL l k).length = l.length := by unfold begL; rw [List.length_append, List.length_drop, List.length_take]; omega
theorem at_app (a b : List Pt) (i : Nat) : at_ (a ++ b) i = if i < a.length then at_ a i else at_ b (i - a.length) := by
  unfold at_
  simp only [List.getD_eq_getElem?_getD]
  by_cases h : i < a.length
  · rw [if_pos h, List.getElem?_append_left h]
  · rw [if_neg h, List.getElem?_append_right (by omega)]
theorem at_drop (l : List Pt) (k i : Nat) : at_ (l.drop k) i = at_ l (k + i) := by unfold at_; simp [List.getD_eq_getElem?_getD, List.getElem?_drop]
theorem at_take {l : List Pt} {k i : Nat} (h : i < k) : at_ (l.take k) i = at_ l i := by unfold at_; simp [List.getD_eq_getElem?_getD, h]
theorem at_beg {l : List Pt} {k r : Nat} (hk : k < l.length) (hr : r < l.length) : at_ (begL l k) r = at_ l ((r + k) % l.length) := by
  unfold begL
  rw [at_app, List.length_drop]
  by_cases h : r < l.length - k
  · rw [if_pos h, at_drop, Nat.mod_eq_of_lt (by omega), Nat.add_comm]
  · rw [if_neg h, at_take (by omega)]
    have e : (r + k) % l.length = r - (l.length - k) := by
      rw [show r + k = (r - (l.length - k)) + l.length by omega, Nat.add_mod_right, Nat.mod_eq_of_lt (by omega)]
    rw [e]
theorem PC_beg {l : List Pt} {k : Nat} (hk : k < l.length) (i : Nat) : PC (begL l k) i = PC l (i + k) := by
  unfold PC
  rw [begL_length (by omega), at_beg hk (Nat.mod_lt _ (by omega)), Nat.mod_add_mod]
theorem cv_beg {l : List Pt} {k : Nat} (hk : k ≤ l.length) : cvB (begL l k) = cvB l := by
  have e : ∀ p, p ∈ begL l k ↔ p ∈ l := fun p => by
    unfold begL
    rw [List.mem_append, Or.comm, ← List.mem_append, List.take_append_drop]
  unfold cvB
  rw [begL_length hk]
  congr 1
  rw [Bool.eq_iff_iff, List.all_eq_true, List.all_eq_true]
  exact ⟨fun h p hp => h p ((e p).2 hp), fun h p hp => h p ((e p).1 hp)⟩
theorem begunAt_eq {l : List Pt} {k : Nat} (hk : k ≤ l.length) (hl : l.length ≤ 100) : laws_begunAt.f l (k : Int) = some (begL l k) := by
  unfold laws_begunAt.f begL
  rw [Option.bind_some, if_pos (by omega), if_pos (by omega), Int.toNat_natCast]
  simp only [Option.bind_some, List.nil_append, List.length_nil]
  rw [if_pos (by simp; omega), if_pos (by simp; omega)]
/-! the opposite order -/
theorem PC_back {l : List Pt} {i : Nat} (hi : i ≤ l.length) : PC (backL l) i = PC l (l.length - i) := by
  cases l with
  | nil => simp [PC, backL, at_]
  | cons p l =>
    have hlen : (backL (p :: l)).length = (p :: l).length := by simp [backL]
    unfold PC
    rw [hlen]
    by_cases h0 : i = 0
    · subst h0
      simp [backL, at_]
    · by_cases h1 : i = (p :: l).length
      · subst h1
        simp [backL, at_]
      · have hi' : i < (p :: l).length := by omega
        rw [Nat.mod_eq_of_lt hi', Nat.mod_eq_of_lt (by omega)]
        obtain ⟨j, rfl⟩ : ∃ j, i = j + 1 := ⟨i - 1, by omega⟩
        simp only [List.length_cons] at hi' ⊢
        rw [show l.length + 1 - (j + 1) = (l.length - 1 - j) + 1 by omega]
        unfold at_ backL
        simp only [List.getD_eq_getElem?_getD, List.getElem?_cons_succ]
        rw [List.getElem?_reverse (by omega)]
theorem cv_back (l : List Pt) : cvB (backL l) = cvB l := by
  cases l with
  | nil => rfl
  | cons p l => unfold cvB backL; simp
/-! turned -/
/-! what PolyArea answers -/
end Go.Proofs.Ytgdhgncdpmalcaa.Pure
namespace Go.Proofs.Ytgdhgncdpmalcaa.Pure
open Go.RowKit Go.Proofs.Ytgdhgncdpmalcaa.Q Go.Proofs.Ytgdhgncdpmalcaa.Ring Go.Proofs.Ytgdhgncdpmalcaa.Geo Go.Proofs.YtgdhgncdpmalcaaW.PrintWords Go.Proofs.YtgdhgncdpmalcaaW.PrintLast
def opp (x y : Int) : Prop := (0 < x ∧ y < 0) ∨ (x < 0 ∧ 0 < y)
/-- Two segments have a point in common. -/
def meetI (ax ay bx b_y cx cy dx dy : Int) : Prop := onP ax ay bx b_y cx cy ∨ onP ax ay bx b_y dx dy ∨ onP cx cy dx dy ax ay ∨ onP cx cy dx dy bx b_y ∨
  (opp (crs ax ay bx b_y cx cy) (crs ax ay bx b_y dx dy) ∧ opp (crs cx cy dx dy ax ay) (crs cx cy dx dy bx b_y))
structure SimpI (n : Nat) (X Y : Nat → Int) : Prop where
  n3 : 3 ≤ n
  px : ∀ i, X (i + n) = X i
  py : ∀ i, Y (i + n) = Y i
  dist : ∀ i j, i < n → j < n → X i = X j → Y i = Y j → i = j
  fold : ∀ i, ¬ onP (X i) (Y i) (X (i + 1)) (Y (i + 1)) (X (i + 2)) (Y (i + 2)) ∧ ¬ onP (X (i + 1)) (Y (i + 1)) (X (i + 2)) (Y (i + 2)) (X i) (Y i)
  meet : ∀ i j, i + 2 ≤ j → j + 2 ≤ i + n → ¬ meetI (X i) (Y i) (X (i + 1)) (Y (i + 1)) (X j) (Y j) (X (j + 1)) (Y (j + 1))
/-! the points of a list -/
def XX (l : List Pt) (i : Nat) : Int := (PC l i).f0
def YY (l : List Pt) (i : Nat) : Int := (PC l i).f1
theorem pvp {l : List Pt} (h : cvB l = true) (i : Nat) : PVP (PC l i) := by
  have := cv_at h i
  exact PV_iff.2 ⟨this.1.1, this.1.2, this.2.1, this.2.2⟩
theorem on_iff {p q r : Pt} (hp : PVP p) (hq : PVP q) (hr : PVP r) : onPt p q r = true ↔ onP p.f0 p.f1 q.f0 q.f1 r.f0 r.f1 := by
  unfold onPt onR
  rw [decide_eq_true_eq]
  exact ⟨fun h => h.2.2.2, fun h => ⟨hp, hq, hr, h⟩⟩
theorem on_no {p q r : Pt} (hp : PVP p) (hq : PVP q) (hr : PVP r) : onPt p q r = false ↔ ¬ onP p.f0 p.f1 q.f0 q.f1 r.f0 r.f1 := by
  rw [← on_iff hp hq hr, Bool.not_eq_true]
theorem sgn_eq {p q r : Pt} (hp : PVP p) (hq : PVP q) (hr : PVP r) : sgnP p q r = sgn (crs p.f0 p.f1 q.f0 q.f1 r.f0 r.f1) := by
  unfold sgnP; rw [sideR_yes hp hq hr]
theorem sgn_opp (x y : Int) : sgn x * sgn y < 0 ↔ opp x y := by
  unfold sgn opp
  split <;> split <;> (try split) <;> (try split) <;> first | omega | (simp; omega)
theorem meet_iff {a b c d : Pt} (ha : PVP a) (hb : PVP b) (hc : PVP c) (hd : PVP d) : meetPt a b c d = true ↔ meetI a.f0 a.f1 b.f0 b.f1 c.f0 c.f1 d.f0 d.f1 := by
  unfold meetPt meetI
  simp only [Bool.or_eq_true, Bool.and_eq_true, decide_eq_true_eq]
  rw [on_iff ha hb hc, on_iff ha hb hd, on_iff hc hd ha, on_iff hc hd hb, sgn_eq ha hb hc, sgn_eq ha hb hd, sgn_eq hc hd ha, sgn_eq hc hd hb, sgn_opp, sgn_opp]
  simp only [or_assoc]
theorem meet_no {a b c d : Pt} (ha : PVP a) (hb : PVP b) (hc : PVP c) (hd : PVP d) : meetPt a b c d = false ↔ ¬ meetI a.f0 a.f1 b.f0 b.f1 c.f0 c.f1 d.f0 d.f1 := by
  rw [← meet_iff ha hb hc hd, Bool.not_eq_true]
theorem PC_mod (l : List Pt) (i : Nat) : PC l (i % l.length) = PC l i := by unfold PC; rw [Nat.mod_mod]
theorem PC_mod1 (l : List Pt) (i d : Nat) : PC l (i % l.length + d) = PC l (i + d) := by unfold PC; rw [Nat.mod_add_mod]
theorem pt_eq {p q : Pt} (h0 : p.f0 = q.f0) (h1 : p.f1 = q.f1) : p = q := by
  obtain ⟨a, b⟩ := p; obtain ⟨c, d⟩ := q
  dsimp only at h0 h1; rw [h0, h1]
theorem same_no {p q : Pt} : sameP p q = false ↔ p ≠ q := by
  rw [← Bool.not_eq_true, sameP_iff]
  exact ⟨fun h e => h (by rw [e]; exact ⟨rfl, rfl⟩), fun h e => h (pt_eq e.1 e.2)⟩
theorem simp_iff {l : List Pt} (h : cvB l = true) : simpleB l = true ↔ SimpI l.length (XX l) (YY l) := by
  have hv := cvB_iff.1 h
  have pv := pvp h
  have at0 : ∀ i, i < l.length → at_ l i = PC l i := fun i hi => (PC_at hi).symm
  have atm : ∀ i, at_ l (i % l.length) = PC l i := fun i => rfl
  have nx : ∀ i, nxt l i = PC l (i + 1) := fun i => rfl
  have nxm : ∀ i d, nxt l ((i + d) % l.length) = PC l (i + d + 1) := fun i d => by rw [nx, PC_mod1]
  rw [simple_iff]
  constructor
  · rintro ⟨h1, h2⟩
    refine ⟨by omega, fun i => by unfold XX; rw [PC_per], fun i => by unfold YY; rw [PC_per], ?_, fun i => ?_, fun i j hi hj => ?_⟩
    · have key : ∀ i j, i < l.length → j < l.length → i < j → PC l i = PC l j → False := by
        intro i j hi hj hij e
        have := h1 i hi (j - i - 1) (by omega)
        unfold dupAt at this
        rw [show i + 1 + (j - i - 1) = j by omega, atm, at0 i hi, same_no] at this
        exact this e.symm
      intro i j hi hj e0 e1
      have e : PC l i = PC l j := pt_eq e0 e1
      rcases Nat.lt_trichotomy i j with q | q | q
      · exact (key i j hi hj q e).elim
      · exact q
      · exact (key j i hj hi q e.symm).elim
    · have := (h2 (i % l.length) (Nat.mod_lt _ (by omega))).1
      unfold foldAt at this
      rw [Bool.or_eq_false_iff, atm, nx, nxm, PC_mod1] at this
      rw [show i % l.length + 1 + 1 = i % l.length + 2 from rfl, PC_mod1] at this
      exact ⟨(on_no (pv _) (pv _) (pv _)).1 this.1, (on_no (pv _) (pv _) (pv _)).1 this.2⟩
    · have := (h2 (i % l.length) (Nat.mod_lt _ (by omega))).2 (j - i - 2) (by omega)
      unfold meetAt at this
      rw [atm, nx, PC_mod1, nxm, atm] at this
      rw [show i % l.length + 2 + (j - i - 2) + 1 = i % l.length + (j - i + 1) by omega, show i % l.length + 2 + (j - i - 2) = i % l.length + (j - i) by omega, PC_mod1, PC_mod1,
        show i + (j - i + 1) = j + 1 by omega, show i + (j - i) = j by omega] at this
      exact (meet_no (pv _) (pv _) (pv _) (pv _)).1 this
  · intro H
    refine ⟨fun i hi t ht => ?_, fun i hi => ⟨?_, fun t ht => ?_⟩⟩
    · unfold dupAt
      rw [atm, at0 i hi, same_no]
      intro e
      have hm := Nat.mod_lt (i + 1 + t) (show 0 < l.length by omega)
      rw [← PC_mod] at e
      have := H.dist _ _ hm hi (by unfold XX; rw [e]) (by unfold YY; rw [e])
      by_cases c : i + 1 + t < l.length
      · rw [Nat.mod_eq_of_lt c] at this; omega
      · rw [show i + 1 + t = (i + 1 + t - l.length) + l.length by omega, Nat.add_mod_right, Nat.mod_eq_of_lt (by omega)] at this
        omega
    · unfold foldAt
      rw [at0 i hi, nx, nxm, Bool.or_eq_false_iff]
      have := H.fold i
      exact ⟨(on_no (pv _) (pv _) (pv _)).2 this.1, (on_no (pv _) (pv _) (pv _)).2 this.2⟩
    · unfold meetAt
      rw [at0 i hi, nx, nxm, atm]
      exact (meet_no (pv _) (pv _) (pv _) (pv _)).2 (H.meet i (i + 2 + t) (by omega) (by omega))
theorem okS_iff {l : List Pt} : okS l = true ↔ cvB l = true ∧ SimpI l.length (XX l) (YY l) := by
  unfold okS
  rw [Bool.and_eq_true]
  exact ⟨fun h => ⟨h.1, (simp_iff h.1).1 h.2⟩, fun h => ⟨h.1, (simp_iff h.1).2 h.2⟩⟩
/-! another beginning, the other way round, a shift, a turn -/
theorem modp {n : Nat} {X : Nat → Int} (px : ∀ i, X (i + n) = X i) (i : Nat) : X (i % n) = X i := by
  have : ∀ k, X (i % n + n * k) = X (i % n) := by
    intro k
    induction k with
    | zero => rfl
    | succ k ih => rw [Nat.mul_succ, ← Nat.add_assoc, px, ih]
  have e := this (i / n)
  rw [Nat.mod_add_div] at e
  exact e.symm
theorem SimpI.shift {n : Nat} {X Y : Nat → Int} (h : SimpI n X Y) (k : Nat) : SimpI n (fun i => X (i + k)) (fun i => Y (i + k)) := by
  have n3 := h.n3
  refine ⟨h.n3, fun i => by rw [show i + n + k = i + k + n by omega, h.px], fun i => by rw [show i + n + k = i + k + n by omega, h.py], fun i j hi hj e0 e1 => ?_, fun i => ?_, fun i j hi hj => ?_⟩
  · rw [← modp h.px (i + k), ← modp h.px (j + k)] at e0
    rw [← modp h.py (i + k), ← modp h.py (j + k)] at e1
    have := h.dist _ _ (Nat.mod_lt _ (by omega)) (Nat.mod_lt _ (by omega)) e0 e1
    have a := Nat.div_add_mod (i + k) n
    have b := Nat.div_add_mod (j + k) n
    rw [this] at a
    rcases Nat.lt_trichotomy i j with q | q | q
    · exfalso
      rcases Nat.lt_or_ge ((i + k) / n) ((j + k) / n) with c | c
      · have : n * ((i + k) / n + 1) ≤ n * ((j + k) / n) := Nat.mul_le_mul_left _ c
        rw [Nat.mul_succ] at this; omega
      · have : n * ((j + k) / n) ≤ n * ((i + k) / n) := Nat.mul_le_mul_left _ c
        omega
    · exact q
    · exfalso
      rcases Nat.lt_or_ge ((j + k) / n) ((i + k) / n) with c | c
      · have : n * ((j + k) / n + 1) ≤ n * ((i + k) / n) := Nat.mul_le_mul_left _ c
        rw [Nat.mul_succ] at this; omega
      · have : n * ((i + k) / n) ≤ n * ((j + k) / n) := Nat.mul_le_mul_left _ c
        omega
  · have := h.fold (i + k)
    rw [show i + k + 1 = i + 1 + k by omega, show i + k + 2 = i + 2 + k by omega] at this
    exact this
  · have := h.meet (i + k) (j + k) (by omega) (by omega)
    rw [show i + k + 1 = i + 1 + k by omega, show j + k + 1 = j + 1 + k by omega] at this
    exact this
theorem crs_swap (a b c d e f : Int) : crs c d a b e f = -(crs a b c d e f) := by unfold crs; grind
theorem onP_sym {a b c d e f : Int} : onP c d a b e f ↔ onP a b c d e f := by
  unfold onP
  rw [crs_swap]
  constructor <;> intro h <;> omega
theorem opp_neg {x y : Int} : opp (-x) (-y) ↔ opp x y := by unfold opp; omega
theorem opp_sym {x y : Int} : opp y x ↔ opp x y := by unfold opp; omega
theorem meetI_rev {a b c d e f g h : Int} : meetI g h e f c d a b ↔ meetI a b c d e f g h := by
  unfold meetI
  rw [onP_sym (a := e) (b := f) (c := g) (d := h), onP_sym (a := e) (b := f) (c := g) (d := h), onP_sym (a := a) (b := b) (c := c) (d := d), onP_sym (a := a) (b := b) (c := c) (d := d)]
  rw [crs_swap e f g h, crs_swap e f g h, crs_swap a b c d, crs_swap a b c d, opp_neg, opp_neg, opp_sym (x := crs e f g h a b), opp_sym (x := crs a b c d e f)]
  constructor
  · rintro (h | h | h | h | h)
    · exact .inr (.inr (.inr (.inl h)))
    · exact .inr (.inr (.inl h))
    · exact .inr (.inl h)
    · exact .inl h
    · exact .inr (.inr (.inr (.inr ⟨h.2, h.1⟩)))
  · rintro (h | h | h | h | h)
    · exact .inr (.inr (.inr (.inl h)))
    · exact .inr (.inr (.inl h))
    · exact .inr (.inl h)
    · exact .inl h
    · exact .inr (.inr (.inr (.inr ⟨h.2, h.1⟩)))
theorem revP {n : Nat} {X : Nat → Int} (px : ∀ i, X (i + n) = X i) {e : Nat} (he : e ≤ 2 * n) : X (n - e % n) = X (2 * n - e) := by
  by_cases h : e < n
  · rw [Nat.mod_eq_of_lt h, ← px (n - e)]; congr 1; omega
  · by_cases h2 : e < 2 * n
    · rw [show e = (e - n) + n by omega, Nat.add_mod_right, Nat.mod_eq_of_lt (by omega)]; congr 1; omega
    · obtain rfl : e = 2 * n := by omega
      rw [Nat.mul_mod_left, Nat.sub_zero, Nat.sub_self, show n = 0 + n by omega, px]
theorem SimpI.rev {n : Nat} {X Y : Nat → Int} (h : SimpI n X Y) : SimpI n (fun i => X (n - i % n)) (fun i => Y (n - i % n)) := by
  have n3 := h.n3
  have rx : ∀ i d, d ≤ n → X (n - (i + d) % n) = X (2 * n - (i % n + d)) := fun i d hd => by
    have := Nat.mod_lt i (show 0 < n by omega)
    rw [← revP h.px (by omega), Nat.mod_add_mod]
  have ry : ∀ i d, d ≤ n → Y (n - (i + d) % n) = Y (2 * n - (i % n + d)) := fun i d hd => by
    have := Nat.mod_lt i (show 0 < n by omega)
    rw [← revP h.py (by omega), Nat.mod_add_mod]
  refine ⟨h.n3, fun i => by rw [Nat.add_mod_right], fun i => by rw [Nat.add_mod_right], fun i j hi hj e0 e1 => ?_, fun i => ?_, fun i j hi hj => ?_⟩
  · rw [Nat.mod_eq_of_lt hi, Nat.mod_eq_of_lt hj, ← modp h.px, ← modp h.px (n - j)] at e0
    rw [Nat.mod_eq_of_lt hi, Nat.mod_eq_of_lt hj, ← modp h.py, ← modp h.py (n - j)] at e1
    have := h.dist _ _ (Nat.mod_lt _ (by omega)) (Nat.mod_lt _ (by omega)) e0 e1
    by_cases ci : i = 0
    · by_cases cj : j = 0
      · omega
      · subst ci; rw [Nat.sub_zero, Nat.mod_self, Nat.mod_eq_of_lt (by omega)] at this; omega
    · by_cases cj : j = 0
      · subst cj; rw [Nat.sub_zero, Nat.mod_self, Nat.mod_eq_of_lt (by omega)] at this; omega
      · rw [Nat.mod_eq_of_lt (by omega), Nat.mod_eq_of_lt (by omega)] at this; omega
  · have hr := Nat.mod_lt i (show 0 < n by omega)
    have e0 := rx i 0 (by omega); have f0 := ry i 0 (by omega)
    rw [Nat.add_zero, Nat.add_zero] at e0 f0
    rw [e0, f0, rx i 1 (by omega), ry i 1 (by omega), rx i 2 (by omega), ry i 2 (by omega)]
    have := h.fold (2 * n - (i % n + 2))
    rw [show 2 * n - (i % n + 2) + 1 = 2 * n - (i % n + 1) by omega, show 2 * n - (i % n + 2) + 2 = 2 * n - i % n by omega] at this
    exact ⟨fun c => this.2 (onP_sym.1 c), fun c => this.1 (onP_sym.1 c)⟩
  · have hr := Nat.mod_lt i (show 0 < n by omega)
    obtain ⟨d, rfl⟩ : ∃ d, j = i + d := ⟨j - i, by omega⟩
    have e0 := rx i 0 (by omega); have f0 := ry i 0 (by omega)
    rw [Nat.add_zero, Nat.add_zero] at e0 f0
    rw [e0, f0, rx i 1 (by omega), ry i 1 (by omega), rx i d (by omega), ry i d (by omega), show i + d + 1 = i + (d + 1) from rfl, rx i (d + 1) (by omega), ry i (d + 1) (by omega)]
    have := h.meet (2 * n - (i % n + (d + 1))) (2 * n - (i % n + 1)) (by omega) (by omega)
    rw [show 2 * n - (i % n + (d + 1)) + 1 = 2 * n - (i % n + d) by omega, show 2 * n - (i % n + 1) + 1 = 2 * n - i % n by omega] at this
    exact fun c => this (meetI_rev.2 c)
theorem SimpI.congr {n : Nat} {X Y X' Y' : Nat → Int} (h : SimpI n X Y) (hx : ∀ i, X' i = X i) (hy : ∀ i, Y' i = Y i) : SimpI n X' Y' := by
  have e1 : X' = X := funext hx
  have e2 : Y' = Y := funext hy
  rw [e1, e2]; exact h
theorem okS_beg {l : List Pt} (h : okS l = true) {k : Nat} (hk : k < l.length) : okS (begL l k) = true := by
  obtain ⟨hc, hs⟩ := okS_iff.1 h
  refine okS_iff.2 ⟨by rw [cv_beg (by omega)]; exact hc, ?_⟩
  rw [begL_length (by omega)]
  exact (hs.shift k).congr (fun i => by unfold XX; rw [PC_beg hk]) (fun i => by unfold YY; rw [PC_beg hk])
theorem backL_len (l : List Pt) : (backL l).length = l.length := by cases l <;> simp [backL]
theorem PC_backm {l : List Pt} (h0 : 0 < l.length) (i : Nat) : PC (backL l) i = PC l (l.length - i % l.length) := by
  have := PC_back (l := l) (i := i % l.length) (Nat.le_of_lt (Nat.mod_lt _ h0))
  rw [← this, ← backL_len l, PC_mod]
theorem okS_back {l : List Pt} (h : okS l = true) : okS (backL l) = true := by
  obtain ⟨hc, hs⟩ := okS_iff.1 h
  have hv := cvB_iff.1 hc
  refine okS_iff.2 ⟨by rw [cv_back]; exact hc, ?_⟩
  rw [backL_len]
  exact hs.rev.congr (fun i => by unfold XX; rw [PC_backm (by omega)]) (fun i => by unfold YY; rw [PC_backm (by omega)])
/-- A map of points that keeps what lies where. -/
structure Rigid (f : Int → Int → Int × Int) : Prop where
  inj : ∀ a b c d, f a b = f c d → a = c ∧ b = d
  crs : ∀ a b c d e g, crs (f a b).1 (f a b).2 (f c d).1 (f c d).2 (f e g).1 (f e g).2 = crs a b c d e g
  on : ∀ a b c d e g, onP (f a b).1 (f a b).2 (f c d).1 (f c d).2 (f e g).1 (f e g).2 ↔ onP a b c d e g
theorem SimpI.map {n : Nat} {X Y : Nat → Int} (h : SimpI n X Y) {f : Int → Int → Int × Int} (hf : Rigid f) : SimpI n (fun i => (f (X i) (Y i)).1) (fun i => (f (X i) (Y i)).2) := by
  refine ⟨h.n3, fun i => by rw [h.px, h.py], fun i => by rw [h.px, h.py], fun i j hi hj e0 e1 => ?_, fun i => ?_, fun i j hi hj => ?_⟩
  · have := hf.inj _ _ _ _ (Prod.ext e0 e1)
    exact h.dist i j hi hj this.1 this.2
  · rw [hf.on, hf.on]; exact h.fold i
  · have := h.meet i j hi hj
    unfold meetI at this ⊢
    rw [hf.on, hf.on, hf.on, hf.on, hf.crs, hf.crs, hf.crs, hf.crs]
    exact this
end Go.Proofs.Ytgdhgncdpmalcaa.Pure
namespace Go.Proofs.Ytgdhgncdpmalcaa.Pure
open Go.RowKit Go.Proofs.Ytgdhgncdpmalcaa.Q Go.Proofs.Ytgdhgncdpmalcaa.Ring Go.Proofs.YtgdhgncdpmalcaaW.PrintWords Go.Proofs.YtgdhgncdpmalcaaW.PrintLast
theorem pwP {x : Int} (h0 : 0 ≤ x) (h1 : x ≤ 4611686018427387904) : wrap64 x = x := by unfold wrap64; omega
theorem btw0 {u v s t : Int} (hv : 0 < v) (h0 : 0 ≤ s) (h1 : s ≤ v) (hu : 0 ≤ u) (h : u * s = v * t) : 0 ≤ t ∧ t ≤ u := by
  constructor
  · refine Int.not_lt.1 fun c => ?_
    have a := Int.mul_nonneg hu h0
    have b := Int.mul_neg_of_pos_of_neg hv c
    omega
  · refine Int.not_lt.1 fun c => ?_
    have a := Int.mul_nonneg hu (show 0 ≤ v - s by omega)
    have b := Int.mul_neg_of_pos_of_neg hv (show u - t < 0 by omega)
    have e1 : u * (v - s) = u * v - u * s := Int.mul_sub _ _ _
    have e2 : v * (u - t) = v * u - v * t := Int.mul_sub _ _ _
    have e3 : v * u = u * v := Int.mul_comm _ _
    omega
theorem btw {u v s t : Int} (hv : 0 < v) (h0 : 0 ≤ s) (h1 : s ≤ v) (h : u * s = v * t) : min 0 u ≤ t ∧ t ≤ max 0 u := by
  by_cases hu : 0 ≤ u
  · have := btw0 hv h0 h1 hu h; omega
  · have := btw0 (u := -u) (t := -t) hv h0 h1 (by omega) (by rw [Int.neg_mul, Int.mul_neg, h]); omega
theorem strad {a b c d e f : Int} (h : crs a b c d e f = 0) (hs : (b ≤ f ∧ f < d) ∨ (d ≤ f ∧ f < b)) : onP a b c d e f := by
  have h' := h
  unfold crs at h'
  have hm : min 0 (c - a) ≤ e - a ∧ e - a ≤ max 0 (c - a) := by
    rcases hs with hs | hs
    · exact btw (u := c - a) (v := d - b) (s := f - b) (t := e - a) (by omega) (by omega) (by omega) (by omega)
    · exact btw (u := c - a) (v := -(d - b)) (s := -(f - b)) (t := e - a) (by omega) (by omega) (by omega) (by rw [Int.mul_neg, Int.neg_mul]; omega)
  exact ⟨h, by omega, by omega, by omega, by omega⟩
theorem sgnP_zero {a b p : Pt} (ha : PVP a) (hb : PVP b) (hp : PVP p) (h : sgnP a b p = 0) : crs a.f0 a.f1 b.f0 b.f1 p.f0 p.f1 = 0 := by
  unfold sgnP at h
  rw [sideR_yes ha hb hp] at h
  exact sgn_zero.1 h
theorem off_sgn {a b p : Pt} (ha : PVP a) (hb : PVP b) (hp : PVP p) (ho : onPt a b p = false) (hs : (a.f1 ≤ p.f1 ∧ p.f1 < b.f1) ∨ (b.f1 ≤ p.f1 ∧ p.f1 < a.f1)) : sgnP a b p ≠ 0 := by
  intro h
  have := strad (sgnP_zero ha hb hp h) hs
  unfold onPt onR at ho
  rw [decide_eq_false_iff_not] at ho
  exact ho ⟨ha, hb, hp, this⟩
theorem dec_neg {l : List Pt} {p : Pt} {j : Nat} : decide (-(placeV l p j) = 1) = !decide (placeV l p j = 1) := by
  rcases placeV_bd l p j with h | h <;> rw [h] <;> rfl
theorem Odd_l0 {l : List Pt} {p : Pt} (hl : l.length ≤ 1048576) (pv : ∀ j, j < l.length → PVP (at_ l j)) (hp : PVP p) (off : ∀ j, j < l.length → onAt l p j = false) (n : Nat) :
    ∀ (j k : Nat), j + n = l.length → n < k → spec_l31Odd.l0 k l (decide (placeV l p j = 1)) (j : Int) p.f0 p.f1 = some (decide (placeV l p l.length = 1)) := by
  induction n with
  | zero =>
    intro j k hj hk
    obtain ⟨k, rfl⟩ : ∃ m, k = m + 1 := ⟨k - 1, by omega⟩
    rw [spec_l31Odd.l0, if_neg (by omega), show j = l.length by omega]
  | succ n ih =>
    intro j k hj hk
    obtain ⟨k, rfl⟩ : ∃ m, k = m + 1 := ⟨k - 1, by omega⟩
    have hw : wrap64 ((j : Int) + 1) = ((j + 1 : Nat) : Int) := by rw [pwP (by omega) (by omega)]; omega
    have hmod : Int.tmod ((j + 1 : Nat) : Int) (l.length : Int) = (((j + 1) % l.length : Nat) : Int) := by
      rw [Int.tmod_eq_emod_of_nonneg (by omega)]; simp
    have hlt : (j + 1) % l.length < l.length := Nat.mod_lt _ (by omega)
    have hjl : j < l.length := by omega
    rw [spec_l31Odd.l0, if_pos (by omega), if_pos (by omega), if_neg (by omega), hw, hmod, if_pos (by omega), if_pos (by omega)]
    simp only [at_rd]
    have hn : at_ l ((j + 1) % l.length) = nxt l j := rfl
    rw [hn]
    have pa := pv j hjl
    have pb : PVP (nxt l j) := pv _ hlt
    have ho : onPt (at_ l j) (nxt l j) p = false := off j hjl
    have go := ih (j + 1) k (by omega) (by omega)
    rw [placeV] at go
    have keep : flipB (at_ l j) (nxt l j) p = false → spec_l31Odd.l0 k l (decide (placeV l p j = 1)) ((j + 1 : Nat) : Int) p.f0 p.f1 = some (decide (placeV l p l.length = 1)) := fun h => by
      rw [h, if_neg (by decide)] at go; exact go
    have turn : flipB (at_ l j) (nxt l j) p = true → spec_l31Odd.l0 k l (!decide (placeV l p j = 1)) ((j + 1 : Nat) : Int) p.f0 p.f1 = some (decide (placeV l p l.length = 1)) := fun h => by
      rw [h, if_pos rfl, dec_neg] at go; exact go
    clear go ih
    by_cases hc : (decide ((at_ l j).f1 > p.f1) == decide ((nxt l j).f1 > p.f1)) = true
    · rw [if_pos hc]
      refine keep ?_
      unfold flipB
      rw [beq_iff_eq] at hc
      rw [show decide (p.f1 < (at_ l j).f1) = decide (p.f1 < (nxt l j).f1) from hc, bne_self_eq_false, Bool.false_and]
    · rw [if_neg hc, side_f pa pb hp]
      simp only [Option.bind_some]
      have hc2 : (decide (p.f1 < (at_ l j).f1) != decide (p.f1 < (nxt l j).f1)) = true := by
        rw [bne_iff_ne]; exact fun e => hc (beq_iff_eq.2 e)
      have hc3 := bne_iff_ne.1 hc2
      have hst : ((at_ l j).f1 ≤ p.f1 ∧ p.f1 < (nxt l j).f1) ∨ ((nxt l j).f1 ≤ p.f1 ∧ p.f1 < (at_ l j).f1) := by
        by_cases q1 : p.f1 < (at_ l j).f1
        · by_cases q2 : p.f1 < (nxt l j).f1
          · exact absurd (by rw [decide_eq_true q1, decide_eq_true q2]) hc3
          · right; omega
        · by_cases q2 : p.f1 < (nxt l j).f1
          · left; omega
          · exact absurd (by rw [decide_eq_false q1, decide_eq_false q2]) hc3
      have hz := off_sgn pa pb hp ho hst
      have hflip : flipB (at_ l j) (nxt l j) p = (decide ((at_ l j).f1 < (nxt l j).f1) == decide (0 < sgnP (at_ l j) (nxt l j) p)) := by
        unfold flipB; rw [hc2, Bool.true_and]
      by_cases c1 : (nxt l j).f1 > (at_ l j).f1
      · rw [if_pos c1]
        by_cases c2 : sgnP (at_ l j) (nxt l j) p > 0
        · rw [if_pos c2]
          exact turn (by rw [hflip, decide_eq_true (show (at_ l j).f1 < (nxt l j).f1 from c1), decide_eq_true (show 0 < sgnP (at_ l j) (nxt l j) p from c2)]; rfl)
        · rw [if_neg c2, if_neg (by omega)]
          exact keep (by rw [hflip, decide_eq_true (show (at_ l j).f1 < (nxt l j).f1 from c1), decide_eq_false (show ¬ 0 < sgnP (at_ l j) (nxt l j) p from c2)]; rfl)
      · rw [if_neg c1, if_pos (by omega)]
        by_cases c2 : sgnP (at_ l j) (nxt l j) p < 0
        · rw [if_pos c2]
          exact turn (by rw [hflip, decide_eq_false (show ¬ (at_ l j).f1 < (nxt l j).f1 from c1), decide_eq_false (show ¬ 0 < sgnP (at_ l j) (nxt l j) p by omega)]; rfl)
        · rw [if_neg c2]
          exact keep (by rw [hflip, decide_eq_false (show ¬ (at_ l j).f1 < (nxt l j).f1 from c1), decide_eq_true (show 0 < sgnP (at_ l j) (nxt l j) p by omega)]; rfl)
theorem Place_l0 {l : List Pt} {p : Pt} (hl : l.length ≤ 1048576) (pv : ∀ j, j < l.length → PVP (at_ l j)) (hp : PVP p) (n : Nat) :
    ∀ (j k : Nat), j + n = l.length → 2 * l.length + n + 2 < k → (∀ i, i < j → onAt l p i = false) → spec_PolyPlace.l0 k l (j : Int) p.f0 p.f1 = some (placeR l p, true) := by
  induction n with
  | zero =>
    intro j k hj hk off
    obtain ⟨k, rfl⟩ : ∃ m, k = m + 1 := ⟨k - 1, by omega⟩
    have offa : ∀ i, i < l.length → onAt l p i = false := fun i hi => off i (by omega)
    rw [spec_PolyPlace.l0, if_neg (by omega), spec_l31Odd.f]
    have := Odd_l0 hl pv hp offa l.length 0 k (by omega) (by omega)
    rw [show spec_l31Odd.l0 k l false 0 p.f0 p.f1 = some (decide (placeV l p l.length = 1)) from this]
    simp only [Option.bind_some]
    rw [placeR_off offa]
    rcases placeV_bd l p l.length with h | h
    · rw [h]; rfl
    · rw [h]; rfl
  | succ n ih =>
    intro j k hj hk off
    obtain ⟨k, rfl⟩ : ∃ m, k = m + 1 := ⟨k - 1, by omega⟩
    have hw : wrap64 ((j : Int) + 1) = ((j + 1 : Nat) : Int) := by rw [pwP (by omega) (by omega)]; omega
    have hmod : Int.tmod ((j + 1 : Nat) : Int) (l.length : Int) = (((j + 1) % l.length : Nat) : Int) := by
      rw [Int.tmod_eq_emod_of_nonneg (by omega)]; simp
    have hlt : (j + 1) % l.length < l.length := Nat.mod_lt _ (by omega)
    have hjl : j < l.length := by omega
    rw [spec_PolyPlace.l0, if_pos (by omega), if_pos (by omega), if_neg (by omega), hw, hmod, if_pos (by omega), if_pos (by omega)]
    simp only [at_rd]
    have hn : at_ l ((j + 1) % l.length) = nxt l j := rfl
    rw [hn, on_f (pv j hjl) (show PVP (nxt l j) from pv _ hlt) hp]
    simp only [Option.bind_some]
    by_cases c : onPt (at_ l j) (nxt l j) p = true
    · rw [if_pos c, placeR_on hjl c]
    · rw [if_neg c]
      refine ih (j + 1) k (by omega) (by omega) fun i hi => ?_
      rcases Nat.lt_or_eq_of_le (Nat.le_of_lt_succ hi) with h | rfl
      · exact off i h
      · exact Bool.eq_false_iff.2 c
theorem specPlace_eq {l : List Pt} {p : Pt} (h : l.length ≤ 1048576) (k : Nat) (hk : 3 * l.length + 5 < k) : spec_PolyPlace.f k l p.f0 p.f1 = some (if okS l && ptB p then (placeR l p, true) else (0, false)) := by
  obtain ⟨k, rfl⟩ : ∃ m, k = m + 1 := ⟨k - 1, by omega⟩
  unfold spec_PolyPlace.f
  rw [show spec_PolyValid.f l = some (okS l) from if_pos h, spec_PtValid_eq]
  simp only [Option.bind_some, spec_PolyPlace.j0]
  cases c : okS l
  · rw [if_neg (by decide), if_pos trivial]; rfl
  · rw [if_pos rfl, Bool.true_and]
    cases q : ptB p
    · rw [if_pos (by decide)]; rfl
    · rw [if_neg (by decide), if_pos rfl]
      have hc : cvB l = true := by unfold okS at c; exact ((Bool.and_eq_true _ _).mp c).1
      have hq := ptB_iff.1 q
      exact Place_l0 h (fun j hj => pv_at hc hj) (show PVP p from PV_iff.2 ⟨hq.1.1, hq.1.2, hq.2.1, hq.2.2⟩) l.length 0 k (by omega) (by omega) (fun i hi => absurd hi (Nat.not_lt_zero _))
end Go.Proofs.Ytgdhgncdpmalcaa.Pure
namespace Go.Proofs.Ytgdhgncdpmalcaa.Pure
open Go.RowKit Go.Proofs.Ytgdhgncdpmalcaa.Q Go.Proofs.Ytgdhgncdpmalcaa.Ring Go.Proofs.Ytgdhgncdpmalcaa.Geo Go.Proofs.YtgdhgncdpmalcaaW.PrintWords Go.Proofs.YtgdhgncdpmalcaaW.PrintLast
/-- 1 if side i flips the place. -/
def flX (l : List Pt) (p : Pt) (i : Nat) : Int := if flipB (PC l i) (PC l (i + 1)) p then 1 else 0
def onX (l : List Pt) (p : Pt) (i : Nat) : Bool := onPt (PC l i) (PC l (i + 1)) p
def parI (s : Int) : Int := if s % 2 = 0 then -1 else 1
theorem placeV_par {l : List Pt} {p : Pt} (j : Nat) (hj : j ≤ l.length) : placeV l p j = parI (sm 0 j (flX l p)) := by
  induction j with
  | zero => rfl
  | succ j ih =>
    have e := ih (by omega)
    rw [placeV, sm, Nat.zero_add, e, ← PC_at (show j < l.length by omega), PC_nxt]
    unfold flX parI
    cases flipB (PC l j) (PC l (j + 1)) p
    · simp
    · simp only [if_true]
      by_cases c : sm 0 j (fun i => if flipB (PC l i) (PC l (i + 1)) p = true then 1 else 0) % 2 = 0
      · rw [if_pos c, if_neg (by omega)]; rfl
      · rw [if_neg c, if_pos (by omega)]
theorem onX_at {l : List Pt} {p : Pt} {i : Nat} (hi : i < l.length) : onAt l p i = onX l p i := by unfold onAt onX; rw [PC_at hi]; rfl
theorem onX_per (l : List Pt) (p : Pt) (i : Nat) : onX l p (i % l.length) = onX l p i := by unfold onX; rw [PC_mod, PC_mod1]
theorem place_on {l : List Pt} {p : Pt} (h0 : 0 < l.length) {i : Nat} (h : onX l p i = true) : placeR l p = 0 := by
  have hm := Nat.mod_lt i h0
  exact placeR_on hm (by rw [onX_at hm, onX_per]; exact h)
theorem place_off {l : List Pt} {p : Pt} (h : ∀ i, onX l p i = false) : placeR l p = parI (sm 0 l.length (flX l p)) := by
  rw [placeR_off (fun j hj => by rw [onX_at hj]; exact h j), placeV_par _ (Nat.le_refl _)]
/-- Two lists of one length with the same sides, up to their order. -/
theorem place_same {l m : List Pt} {p : Pt} (h0 : 0 < l.length) (h1 : 0 < m.length) (on1 : ∀ i, ∃ j, onX m p i = onX l p j) (on2 : ∀ i, ∃ j, onX l p i = onX m p j)
    (hf : (∀ i, onX l p i = false) → sm 0 m.length (flX m p) = sm 0 l.length (flX l p)) : placeR m p = placeR l p := by
  by_cases c : ∀ i, onX l p i = false
  · rw [place_off c, place_off (fun i => by obtain ⟨j, e⟩ := on1 i; rw [e]; exact c j), hf c]
  · obtain ⟨i, hi⟩ := Classical.not_forall.1 c
    have hi : onX l p i = true := by cases h : onX l p i <;> simp_all
    obtain ⟨j, e⟩ := on2 i
    rw [place_on h0 hi, place_on h1 (by rw [← e]; exact hi)]
theorem flX_per (l : List Pt) (p : Pt) (i : Nat) : flX l p (i + l.length) = flX l p i := by
  unfold flX; rw [PC_per, show i + l.length + 1 = i + 1 + l.length by omega, PC_per]
theorem place_beg {l : List Pt} {p : Pt} {k : Nat} (hk : k < l.length) : placeR (begL l k) p = placeR l p := by
  refine place_same (by omega) (by rw [begL_length (by omega)]; omega) (fun i => ⟨i + k, ?_⟩) (fun i => ⟨i + l.length * k - k, ?_⟩) (fun _ => ?_)
  · unfold onX; rw [PC_beg hk, PC_beg hk, show i + 1 + k = i + k + 1 by omega]
  · have : k ≤ l.length * k := Nat.le_mul_of_pos_left _ (by omega)
    unfold onX
    rw [PC_beg hk, PC_beg hk, show i + l.length * k - k + k = i + l.length * k by omega, show i + l.length * k - k + 1 + k = i + 1 + l.length * k by omega]
    have e : ∀ a, PC l (a + l.length * k) = PC l a := fun a => by rw [← PC_mod l (a + l.length * k), Nat.add_mul_mod_self_left, PC_mod]
    rw [e, e]
  · rw [begL_length (by omega)]
    have e : sm 0 l.length (flX (begL l k) p) = sm 0 l.length (fun j => flX l p (k + j)) := sm_congr (fun j _ _ => by unfold flX; rw [PC_beg hk, PC_beg hk, show j + k = k + j by omega, show j + 1 + k = k + j + 1 by omega])
    rw [e, ← sm_sh l.length k (flX l p), sm_period (flX_per l p)]
theorem onPt_sym (a b p : Pt) : onPt b a p = onPt a b p := by
  unfold onPt onR
  rw [decide_eq_decide, onP_sym]
  constructor <;> rintro ⟨h1, h2, h3, h4⟩ <;> exact ⟨h2, h1, h3, h4⟩
theorem flip_sym {a b p : Pt} (ha : PVP a) (hb : PVP b) (hp : PVP p) (ho : onPt a b p = false) : flipB b a p = flipB a b p := by
  unfold flipB
  by_cases c : (p.f1 < a.f1) ↔ (p.f1 < b.f1)
  · have : decide (p.f1 < a.f1) = decide (p.f1 < b.f1) := decide_eq_decide.2 c
    rw [this]
    cases decide (p.f1 < b.f1) <;> rfl
  · have hs : (a.f1 ≤ p.f1 ∧ p.f1 < b.f1) ∨ (b.f1 ≤ p.f1 ∧ p.f1 < a.f1) := by omega
    have hz := off_sgn ha hb hp ho hs
    have e : sgnP b a p = -(sgnP a b p) := by
      rw [sgn_eq hb ha hp, sgn_eq ha hb hp, crs_swap]
      unfold sgn
      split <;> split <;> omega
    rw [e]
    have d1 : decide (b.f1 < a.f1) = !decide (a.f1 < b.f1) := by
      rw [Bool.eq_iff_iff]; simp; omega
    have d2 : decide (0 < -(sgnP a b p)) = !decide (0 < sgnP a b p) := by
      rw [Bool.eq_iff_iff]; simp; omega
    rw [d1, d2]
    cases decide (p.f1 < a.f1) <;> cases decide (p.f1 < b.f1) <;> cases decide (a.f1 < b.f1) <;> cases decide (0 < sgnP a b p) <;> rfl
theorem side_back {l : List Pt} (i : Nat) (hi : i < l.length) : PC (backL l) i = PC l (l.length - 1 - i + 1) ∧ PC (backL l) (i + 1) = PC l (l.length - 1 - i) := by
  constructor
  · rw [PC_back (by omega)]; congr 1; omega
  · rw [PC_back (by omega)]; congr 1; omega
theorem place_back {l : List Pt} {p : Pt} (hv : cvB l = true) (hp : PVP p) : placeR (backL l) p = placeR l p := by
  have h3 := (cvB_iff.1 hv).1
  refine place_same (by omega) (by rw [backL_len]; omega) (fun i => ⟨l.length - 1 - i % l.length, ?_⟩) (fun i => ⟨l.length - 1 - i % l.length, ?_⟩) (fun c => ?_)
  · have hm := Nat.mod_lt i (show 0 < l.length by omega)
    have e := side_back _ hm
    rw [← onX_per, backL_len]
    unfold onX
    rw [e.1, e.2, onPt_sym]
  · have hm := Nat.mod_lt i (show 0 < l.length by omega)
    have e := side_back (l := l) (l.length - 1 - i % l.length) (by omega)
    rw [← onX_per]
    unfold onX
    rw [e.1, e.2, onPt_sym, show l.length - 1 - (l.length - 1 - i % l.length) = i % l.length by omega]
  · rw [backL_len, ← sm_rev l.length (flX l p)]
    refine sm_congr (fun j _ hj => ?_)
    have e := side_back (l := l) j (by omega)
    unfold flX
    rw [e.1, e.2, flip_sym (pvp hv _) (pvp hv _) hp (c _)]
theorem place_corner {l : List Pt} (hv : cvB l = true) {k : Nat} (hk : k < l.length) : placeR l (at_ l k) = 0 := by
  rw [← PC_at hk]
  refine place_on (i := k) (by omega) ?_
  unfold onX
  exact onPt_self (pvp hv _) (pvp hv _)
theorem far_flip {a b p : Pt} (ha : PVP a) (hb : PVP b) (hp : PVP p) (h1 : p.f0 < a.f0) (h2 : p.f0 < b.f0) : flipB a b p = (decide (p.f1 < a.f1) != decide (p.f1 < b.f1)) := by
  unfold flipB
  by_cases c : (p.f1 < a.f1) ↔ (p.f1 < b.f1)
  · have : decide (p.f1 < a.f1) = decide (p.f1 < b.f1) := decide_eq_decide.2 c
    rw [this]; cases decide (p.f1 < b.f1) <;> rfl
  · have key : decide (a.f1 < b.f1) = decide (0 < sgnP a b p) := by
      rw [decide_eq_decide, sgn_eq ha hb hp]
      have ex : crs a.f0 a.f1 b.f0 b.f1 p.f0 p.f1 = (b.f0 - p.f0) * (p.f1 - a.f1) + (a.f0 - p.f0) * (b.f1 - p.f1) := by unfold crs; grind
      have sg : 0 < sgn (crs a.f0 a.f1 b.f0 b.f1 p.f0 p.f1) ↔ 0 < crs a.f0 a.f1 b.f0 b.f1 p.f0 p.f1 := by unfold sgn; split <;> (try split) <;> omega
      rw [sg, ex]
      rcases Int.lt_or_le p.f1 b.f1 with hb1 | hb1
      · have ha1 : a.f1 ≤ p.f1 := by omega
        have m1 := Int.mul_nonneg (show 0 ≤ b.f0 - p.f0 by omega) (show 0 ≤ p.f1 - a.f1 by omega)
        have m2 := Int.mul_pos (show 0 < a.f0 - p.f0 by omega) (show 0 < b.f1 - p.f1 by omega)
        constructor <;> intro _ <;> omega
      · have ha1 : p.f1 < a.f1 := by omega
        have m1 := Int.mul_pos (show 0 < b.f0 - p.f0 by omega) (show 0 < a.f1 - p.f1 by omega)
        have m2 := Int.mul_nonneg (show 0 ≤ a.f0 - p.f0 by omega) (show 0 ≤ p.f1 - b.f1 by omega)
        have n1 : (b.f0 - p.f0) * (p.f1 - a.f1) = -((b.f0 - p.f0) * (a.f1 - p.f1)) := by rw [← Int.mul_neg]; congr 1; omega
        have n2 : (a.f0 - p.f0) * (b.f1 - p.f1) = -((a.f0 - p.f0) * (p.f1 - b.f1)) := by rw [← Int.mul_neg]; congr 1; omega
        constructor <;> intro _ <;> omega
    rw [key]
    cases decide (p.f1 < a.f1) <;> cases decide (p.f1 < b.f1) <;> cases decide (0 < sgnP a b p) <;> rfl
theorem place_far {l : List Pt} {p : Pt} (hv : cvB l = true) (hp : PVP p) (h : ∀ i, p.f0 < (PC l i).f0) : placeR l p = -1 := by
  have off : ∀ i, onX l p i = false := fun i => by
    unfold onX
    refine (on_no (pvp hv _) (pvp hv _) hp).2 (fun c => ?_)
    have := h i; have := h (i + 1)
    unfold onP at c; omega
  rw [place_off off]
  have e : sm 0 l.length (flX l p) = sm 0 l.length (fun i => ((fun i => if p.f1 < (PC l i).f1 then (1 : Int) else 0) (i + 1) - (fun i => if p.f1 < (PC l i).f1 then (1 : Int) else 0) i) +
      ((if p.f1 < (PC l i).f1 ∧ ¬ p.f1 < (PC l (i + 1)).f1 then 1 else 0) + (if p.f1 < (PC l i).f1 ∧ ¬ p.f1 < (PC l (i + 1)).f1 then 1 else 0))) :=
    sm_congr (fun i _ _ => by
      unfold flX
      rw [far_flip (pvp hv _) (pvp hv _) hp (h _) (h _)]
      by_cases c1 : p.f1 < (PC l i).f1 <;> by_cases c2 : p.f1 < (PC l (i + 1)).f1 <;> simp [c1, c2])
  rw [e, sm_add, sm_tele 0 l.length (fun i => if p.f1 < (PC l i).f1 then (1 : Int) else 0), sm_add, Nat.zero_add]
  have : PC l l.length = PC l 0 := by have := PC_per l 0; rwa [Nat.zero_add] at this
  rw [this]
  unfold parI
  rw [if_pos (by omega)]
end Go.Proofs.Ytgdhgncdpmalcaa.Pure
namespace Go.Proofs.Ytgdhgncdpmalcaa.Pure
open Go.RowKit Go.Proofs.Ytgdhgncdpmalcaa.Q Go.Proofs.YtgdhgncdpmalcaaW.PrintWords Go.Proofs.YtgdhgncdpmalcaaW.PrintLast Go.Proofs.YtgdhgncdpmalcaaW.PrintMore

theorem rw64 {x : Int} (h0 : -9223372036854775808 ≤ x) (h1 : x ≤ 9223372036854775807) : wrap64 x = x := by
  unfold wrap64; omega

theorem xor_nonneg (x y : Int) (hx : 0 ≤ x) (hx' : x < 2 ^ 62) (hy : 0 ≤ y) (hy' : y < 2 ^ 62) : 0 ≤ Go.bits .xor .i64 x y := by
  obtain ⟨a, rfl⟩ : ∃ a : Nat, x = a := ⟨x.toNat, by omega⟩
  obtain ⟨b, rfl⟩ : ∃ b : Nat, y = b := ⟨y.toNat, by omega⟩
  have ha : a < 2 ^ 62 := by omega
  have hb : b < 2 ^ 62 := by omega
  have ha' : a % 2 ^ 64 = a := Nat.mod_eq_of_lt (by omega)
  have hb' : b % 2 ^ 64 = b := Nat.mod_eq_of_lt (by omega)
  have h := Nat.xor_lt_two_pow ha hb
  have e : Go.bits .xor .i64 (a : Int) (b : Int) = ((a ^^^ b : Nat) : Int) := by
    have e0 : Go.bits .xor .i64 (a : Int) (b : Int) = IntKind.i64.wrap ((BitVec.ofInt 64 (a : Int) ^^^ BitVec.ofInt 64 (b : Int)).toNat : Int) := rfl
    rw [e0, BitVec.ofInt_natCast, BitVec.ofInt_natCast, BitVec.toNat_xor, BitVec.toNat_ofNat, BitVec.toNat_ofNat, ha', hb', IntKind.wrap_i64]
    omega
  rw [e]
  exact Int.natCast_nonneg _

/-- All numbers of a list are bytes. -/
def Bts (b : List Int) : Prop := b.length ≤ 2000 ∧ ∀ x ∈ b, 0 ≤ x ∧ x ≤ 255
theorem Bts.at_ {b : List Int} (h : Bts b) (i : Int) : 0 ≤ rd b i ∧ rd b i ≤ 255 := by
  unfold rd
  by_cases hi : i.toNat < b.length
  · rw [List.getD_eq_getElem?_getD, List.getElem?_eq_getElem hi]; exact h.2 _ (List.getElem_mem hi)
  · rw [List.getD_eq_getElem?_getD, List.getElem?_eq_none (by omega)]; simp

theorem pick_ok (k : Nat) {b : List Int} {p n : Int} (hb : Bts b) (hp : 0 ≤ p ∧ p ≤ 1000000) (hn : 1 ≤ n) :
    ∃ v, spec_l6Rd_pick.f (k + 1) b p n = some (v, p + 1) ∧ 0 ≤ v ∧ v < n := by
  unfold spec_l6Rd_pick.f
  rw [if_neg (by omega), rw64 (x := p + 1) (by omega) (by omega)]
  simp only [spec_l6Rd_pick.j0]
  by_cases h0 : (b.length : Int) = 0
  · exact ⟨0, by rw [if_pos (by simpa using h0)], by omega, by omega⟩
  · rw [if_neg (by simpa using h0), show p + 1 - 1 = p by omega, rw64 (x := p) (by omega) (by omega)]
    have hlen : 0 < (b.length : Int) := by omega
    have hL := hb.1
    by_cases h1 : p < (b.length : Int)
    · rw [if_pos h1, if_pos hp.1, if_neg (by omega)]
      have hr := hb.at_ p
      rw [rw64 (by omega) (by omega), Int.tmod_eq_emod_of_nonneg hr.1]
      exact ⟨_, rfl, Int.emod_nonneg _ (by omega), Int.emod_lt_of_pos _ (by omega)⟩
    · rw [if_neg h1, if_neg h0]
      have q0 : 0 ≤ Int.tmod p (b.length : Int) := by rw [Int.tmod_eq_emod_of_nonneg hp.1]; exact Int.emod_nonneg _ (by omega)
      have q1 : Int.tmod p (b.length : Int) < (b.length : Int) := by rw [Int.tmod_eq_emod_of_nonneg hp.1]; exact Int.emod_lt_of_pos _ hlen
      rw [rw64 (x := p * 7) (by omega) (by omega), rw64 (x := p * 7 + 3) (by omega) (by omega)]
      have q2 : 0 ≤ Int.tmod (p * 7 + 3) (b.length : Int) := by rw [Int.tmod_eq_emod_of_nonneg (by omega)]; exact Int.emod_nonneg _ (by omega)
      have q3 : Int.tmod (p * 7 + 3) (b.length : Int) < (b.length : Int) := by rw [Int.tmod_eq_emod_of_nonneg (by omega)]; exact Int.emod_lt_of_pos _ hlen
      rw [if_pos q0, if_pos q1, if_pos q2, if_pos q3, if_neg (by omega)]
      have hr := hb.at_ (Int.tmod p (b.length : Int))
      have hs := hb.at_ (Int.tmod (p * 7 + 3) (b.length : Int))
      have hd : 0 ≤ Int.tdiv p (b.length : Int) ∧ Int.tdiv p (b.length : Int) ≤ p := by
        rw [Int.tdiv_eq_ediv_of_nonneg hp.1]
        exact ⟨Int.ediv_nonneg hp.1 (by omega), Int.ediv_le_self _ hp.1⟩
      generalize rd b (Int.tmod p (b.length : Int)) = u at *
      generalize rd b (Int.tmod (p * 7 + 3) (b.length : Int)) = v at *
      generalize Int.tdiv p (b.length : Int) = d at *
      rw [rw64 (x := u) (by omega) (by omega), rw64 (x := v) (by omega) (by omega), rw64 (x := u * 131) (by omega) (by omega), rw64 (x := v * 1117) (by omega) (by omega),
        rw64 (x := u * 131 + v * 1117) (by omega) (by omega), rw64 (x := p * 29) (by omega) (by omega), rw64 (x := u * 131 + v * 1117 + p * 29) (by omega) (by omega),
        rw64 (x := d) (by omega) (by omega), rw64 (x := d * 53) (by omega) (by omega), rw64 (x := u * 131 + v * 1117 + p * 29 + d * 53) (by omega) (by omega)]
      have hx : 0 ≤ u * 131 + v * 1117 + p * 29 + d * 53 := by omega
      have hx' : u * 131 + v * 1117 + p * 29 + d * 53 < 2 ^ 60 := by omega
      generalize u * 131 + v * 1117 + p * 29 + d * 53 = x at *
      have hy : 0 ≤ Int.tdiv x 64 ∧ Int.tdiv x 64 < 2 ^ 60 := by rw [Int.tdiv_eq_ediv_of_nonneg hx]; omega
      rw [rw64 (x := Int.tdiv x 64) (by omega) (by omega)]
      have hz := xor_nonneg x (Int.tdiv x 64) hx (by omega) hy.1 (by omega)
      rw [Int.tmod_eq_emod_of_nonneg hz]
      exact ⟨_, rfl, Int.emod_nonneg _ (by omega), Int.emod_lt_of_pos _ (by omega)⟩

theorem open_ok {l : List Int} (hl : ∀ x ∈ l, (Lit.int .u8 x).wf = true) : ∃ b, spec_l6Open.f l = some (b, 0) ∧ Bts b := by
  have hb : ∀ x ∈ l, 0 ≤ x ∧ x ≤ 255 := fun x hx => by
    have := hl x hx
    simp [Lit.wf, IntKind.min, IntKind.max, IntKind.signed, IntKind.bits] at this
    omega
  unfold spec_l6Open.f
  by_cases h : (l.length : Int) > 2000
  · rw [if_pos h, if_pos (by omega)]
    exact ⟨_, rfl, by rw [List.length_take]; omega, fun x hx => hb x (List.mem_of_mem_take hx)⟩
  · rw [if_neg h]
    exact ⟨_, rfl, by omega, hb⟩
end Go.Proofs.Ytgdhgncdpmalcaa.Pure
namespace Go.Proofs.Ytgdhgncdpmalcaa.Pure
open Go.RowKit Go.Proofs.Ytgdhgncdpmalcaa.Q Go.Proofs.YtgdhgncdpmalcaaW.PrintWords Go.Proofs.YtgdhgncdpmalcaaW.PrintLast Go.Proofs.YtgdhgncdpmalcaaW.PrintMore

theorem l91Point_ok (k : Nat) {b : List Int} {p : Int} (hb : Bts b) (hp : 0 ≤ p ∧ p ≤ 100000) :
    ∃ x y q, spec_l91Point.f (k + 1) b p = some (x, y, q) ∧ p ≤ q ∧ q ≤ p + 5 ∧ -10001 ≤ x ∧ x ≤ 10001 ∧ -10001 ≤ y ∧ y ≤ 10001 := by
  unfold spec_l91Point.f
  obtain ⟨v1, h1, _, _⟩ := pick_ok k hb (p := p) (n := 13) (by omega) (by omega)
  obtain ⟨v2, h2, _, _⟩ := pick_ok k hb (p := p + 1) (n := 13) (by omega) (by omega)
  obtain ⟨v3, h3, _, _⟩ := pick_ok k hb (p := p + 1 + 1) (n := 40) (by omega) (by omega)
  rw [h1]; simp only [Option.bind_some]
  rw [h2]; simp only [Option.bind_some]
  rw [h3]; simp only [Option.bind_some]
  rw [rw64 (x := v1 - 6) (by omega) (by omega), rw64 (x := v2 - 6) (by omega) (by omega)]
  by_cases e0 : v3 = 0
  · rw [if_pos e0]
    obtain ⟨v4, h4, _, _⟩ := pick_ok k hb (p := p + 1 + 1 + 1) (n := 3) (by omega) (by omega)
    rw [h4]; simp only [Option.bind_some]
    rw [if_pos (by omega), if_pos (by simp; omega)]
    refine ⟨_, _, _, rfl, by omega, by omega, ?_⟩
    have : v4 = 0 ∨ v4 = 1 ∨ v4 = 2 := by omega
    rcases this with rfl | rfl | rfl <;> refine ⟨by decide, by decide, by omega, by omega⟩
  · rw [if_neg e0]
    by_cases e1 : v3 = 1
    · rw [if_pos e1]
      obtain ⟨v4, h4, _, _⟩ := pick_ok k hb (p := p + 1 + 1 + 1) (n := 200) (by omega) (by omega)
      obtain ⟨v5, h5, _, _⟩ := pick_ok k hb (p := p + 1 + 1 + 1 + 1) (n := 200) (by omega) (by omega)
      rw [h4]; simp only [Option.bind_some]
      rw [h5]; simp only [Option.bind_some]
      rw [rw64 (x := v4 * 50) (by omega) (by omega), rw64 (x := v5 * 50) (by omega) (by omega), rw64 (x := v4 * 50 - 5000) (by omega) (by omega), rw64 (x := v5 * 50 - 5000) (by omega) (by omega)]
      exact ⟨_, _, _, rfl, by omega, by omega, by omega, by omega, by omega, by omega⟩
    · rw [if_neg e1]
      exact ⟨_, _, _, rfl, by omega, by omega, by omega, by omega, by omega, by omega⟩

end Go.Proofs.Ytgdhgncdpmalcaa.Pure
namespace Go.Proofs.Ytgdhgncdpmalcaa.Pure
open Go.RowKit Go.Proofs.Ytgdhgncdpmalcaa.Q Go.Proofs.YtgdhgncdpmalcaaW.PrintWords Go.Proofs.YtgdhgncdpmalcaaW.PrintLast Go.Proofs.YtgdhgncdpmalcaaW.PrintMore
theorem l92Box_ok (k : Nat) {b : List Int} {p : Int} (hb : Bts b) (hp : 0 ≤ p ∧ p ≤ 100000) : ∃ l q, spec_l92Box.f (k + 2) b p = some (l, q) ∧ p ≤ q ∧ q ≤ p + 10 ∧ l.length ≤ 12 := by
  unfold spec_l92Box.f
  obtain ⟨v1, h1, _, _⟩ := pick_ok (k + 1) hb (p := p) (n := 5) (by omega) (by omega)
  obtain ⟨v2, h2, _, _⟩ := pick_ok (k + 1) hb (p := p + 1) (n := 5) (by omega) (by omega)
  obtain ⟨v3, h3, _, _⟩ := pick_ok (k + 1) hb (p := p + 1 + 1) (n := 5) (by omega) (by omega)
  obtain ⟨v4, h4, _, _⟩ := pick_ok (k + 1) hb (p := p + 1 + 1 + 1) (n := 5) (by omega) (by omega)
  rw [h1]; simp only [Option.bind_some]
  rw [h2]; simp only [Option.bind_some]
  rw [h3]; simp only [Option.bind_some]
  rw [h4]; simp only [Option.bind_some]
  have j : ∀ (x y : Int) (l : List Pt) (c : Bool) (r : Int), l.length = 4 → p ≤ r → r ≤ p + 8 → ∃ l' q, spec_l92Box.j0 (k + 2) x y l c b r = some (l', q) ∧ p ≤ q ∧ q ≤ p + 10 ∧ l'.length ≤ 12 := by
    intro x y l c r hl h0 h8
    obtain ⟨v5, h5, _, _⟩ := pick_ok k hb (p := r) (n := 3) (by omega) (by omega)
    cases c
    · rw [spec_l92Box.j0, if_neg (by decide), h5]
      simp only [Option.bind_some]
      by_cases e : v5 = 0
      · rw [if_pos e, if_pos (by omega)]; exact ⟨_, _, rfl, by omega, by omega, by simp; omega⟩
      · rw [if_neg e]; exact ⟨_, _, rfl, by omega, by omega, by omega⟩
    · rw [spec_l92Box.j0, if_pos rfl, Option.bind_some, if_pos (by omega), Option.bind_some, if_pos (by simp; omega), Option.bind_some, h5]
      simp only [Option.bind_some]
      by_cases e : v5 = 0
      · rw [if_pos e, if_pos (by simp; omega)]; exact ⟨_, _, rfl, by omega, by omega, by simp; omega⟩
      · rw [if_neg e]; exact ⟨_, _, rfl, by omega, by omega, by simp; omega⟩
  by_cases e : wrap64 (1 + v3) > 1
  · rw [if_pos e]
    obtain ⟨v5, h5, _, _⟩ := pick_ok (k + 1) hb (p := p + 1 + 1 + 1 + 1) (n := 2) (by omega) (by omega)
    rw [h5]; simp only [Option.bind_some]
    exact j _ _ _ _ _ rfl (by omega) (by omega)
  · rw [if_neg e]
    exact j _ _ _ _ _ rfl (by omega) (by omega)
theorem l92Star_l0 {b : List Int} (hb : Bts b) {s : List Pt} (hs : s.length ≤ 12) (n : Nat) : ∀ (i : Nat) (x : List Pt) (p : Int) (k : Nat), i + n = s.length → n < k → x.length ≤ i → 0 ≤ p → p + 2 * n ≤ 100000 →
    ∃ l q, spec_l92Star.l0 k s x (i : Int) b p = some (l, q) ∧ p ≤ q ∧ q ≤ p + 2 * n ∧ l.length ≤ x.length + n := by
  induction n with
  | zero =>
    intro i x p k hi hk _ _ _
    obtain ⟨k, rfl⟩ : ∃ m, k = m + 1 := ⟨k - 1, by omega⟩
    exact ⟨x, p, by rw [spec_l92Star.l0, if_neg (by omega)], by omega, by omega, by omega⟩
  | succ n ih =>
    intro i x p k hi hk hx h0 hp
    obtain ⟨k, rfl⟩ : ∃ m, k = m + 2 := ⟨k - 2, by omega⟩
    have hw : wrap64 ((i : Int) + 1) = ((i + 1 : Nat) : Int) := by rw [pw64 (by omega) (by omega)]; omega
    rw [spec_l92Star.l0, if_pos (by omega)]
    obtain ⟨v1, h1, _, _⟩ := pick_ok k hb (p := p) (n := 3) (by omega) (by omega)
    by_cases e : Int.tmod (i : Int) 4 = 0
    · rw [if_pos e, h1]
      simp only [Option.bind_some]
      rw [if_pos (by omega), if_pos (by omega), hw]
      obtain ⟨l, q, e1, e2, e3, e4⟩ := ih (i + 1) (x ++ [(⟨wrap64 ((wrap64 (1 + v1)) * ((rd_T32 s (i : Int)).f0)), wrap64 ((wrap64 (1 + v1)) * ((rd_T32 s (i : Int)).f1))⟩ : Pt)]) (p + 1) (k + 1) (by omega) (by omega) (by simp; omega) (by omega) (by omega)
      exact ⟨l, q, e1, by omega, by omega, by simp at e4; omega⟩
    · rw [if_neg e, h1]
      simp only [Option.bind_some]
      by_cases e' : v1 = 0
      · obtain ⟨v2, h2, _, _⟩ := pick_ok k hb (p := p + 1) (n := 3) (by omega) (by omega)
        rw [if_pos e', h2]
        simp only [Option.bind_some]
        rw [if_pos (by omega), if_pos (by omega), hw]
        obtain ⟨l, q, e1, e2, e3, e4⟩ := ih (i + 1) (x ++ [(⟨wrap64 ((wrap64 (1 + v2)) * ((rd_T32 s (i : Int)).f0)), wrap64 ((wrap64 (1 + v2)) * ((rd_T32 s (i : Int)).f1))⟩ : Pt)]) (p + 1 + 1) (k + 1) (by omega) (by omega) (by simp; omega) (by omega) (by omega)
        exact ⟨l, q, e1, by omega, by omega, by simp at e4; omega⟩
      · rw [if_neg e', hw]
        obtain ⟨l, q, e1, e2, e3, e4⟩ := ih (i + 1) x (p + 1) (k + 1) (by omega) (by omega) (by omega) (by omega) (by omega)
        exact ⟨l, q, e1, by omega, by omega, by omega⟩
theorem l92Star_ok (k : Nat) {b : List Int} {p : Int} (hb : Bts b) (hp : 0 ≤ p ∧ p ≤ 10000) : ∃ l q, spec_l92Star.f (k + 20) b p = some (l, q) ∧ p ≤ q ∧ q ≤ p + 24 ∧ l.length ≤ 12 := by
  obtain ⟨l, q, e1, e2, e3, e4⟩ := l92Star_l0 hb (s := [(⟨2, 0⟩ : Pt), (⟨2, 1⟩ : Pt), (⟨1, 2⟩ : Pt), (⟨0, 2⟩ : Pt), (⟨(-1), 2⟩ : Pt), (⟨(-2), 1⟩ : Pt), (⟨(-2), 0⟩ : Pt), (⟨(-2), (-1)⟩ : Pt), (⟨(-1), (-2)⟩ : Pt), (⟨0, (-2)⟩ : Pt), (⟨1, (-2)⟩ : Pt), (⟨2, (-1)⟩ : Pt)]) (by decide) 12 0 [] p (k + 20) rfl (by omega) (by simp) (by omega) (by omega)
  exact ⟨l, q, e1, by omega, by omega, by simpa using e4⟩
theorem l92Poly_l0 {b : List Int} (hb : Bts b) {m : Int} (n : Nat) : ∀ (i : Int) (x : List Pt) (p : Int) (k : Nat), i + n = m → n < k → (x.length : Int) ≤ i → m ≤ 12 → 0 ≤ i → 0 ≤ p → p + 5 * n ≤ 100000 →
    ∃ l q, spec_l92Poly.l0 k x m i b p = some (l, q) ∧ p ≤ q ∧ q ≤ p + 5 * n ∧ l.length ≤ x.length + n := by
  induction n with
  | zero =>
    intro i x p k hi hk _ _ _ _ _
    obtain ⟨k, rfl⟩ : ∃ m, k = m + 1 := ⟨k - 1, by omega⟩
    exact ⟨x, p, by rw [spec_l92Poly.l0, if_neg (by omega)], by omega, by omega, by omega⟩
  | succ n ih =>
    intro i x p k hi hk hx hm hi0 h0 hp
    obtain ⟨k, rfl⟩ : ∃ m, k = m + 2 := ⟨k - 2, by omega⟩
    obtain ⟨u, v, r, h1, h2, h3, _⟩ := l91Point_ok k hb (p := p) (by omega)
    rw [spec_l92Poly.l0, if_pos (by omega), h1]
    simp only [Option.bind_some]
    rw [if_pos (by omega), pw64 (by omega) (by omega)]
    obtain ⟨l, q, e1, e2, e3, e4⟩ := ih (i + 1) (x ++ [(⟨u, v⟩ : Pt)]) r (k + 1) (by omega) (by omega) (by simp; omega) (by omega) (by omega) (by omega) (by omega)
    exact ⟨l, q, e1, by omega, by omega, by simp at e4; omega⟩
theorem backL_length (l : List Pt) : (backL l).length = l.length := by cases l <;> simp [backL]
theorem l92Poly_ok (k : Nat) {b : List Int} {p : Int} (hb : Bts b) (hp : 0 ≤ p ∧ p ≤ 1000) : ∃ l q, spec_l92Poly.f (k + 60) b p = some (l, q) ∧ p ≤ q ∧ q ≤ p + 100 ∧ l.length ≤ 12 := by
  unfold spec_l92Poly.f
  obtain ⟨v1, h1, _, _⟩ := pick_ok (k + 59) hb (p := p) (n := 8) (by omega) (by omega)
  rw [h1]; simp only [Option.bind_some]
  have box : ∃ l q, spec_l92Box.f (k + 60) b (p + 1) = some (l, q) ∧ p + 1 ≤ q ∧ q ≤ p + 1 + 10 ∧ l.length ≤ 12 := l92Box_ok (k + 58) hb (by omega)
  obtain ⟨lb, qb, b1, b2, b3, b4⟩ := box
  by_cases e0 : v1 = 0
  · rw [if_pos e0]
    obtain ⟨v2, h2, _, _⟩ := pick_ok (k + 59) hb (p := p + 1) (n := 6) (by omega) (by omega)
    rw [h2]; simp only [Option.bind_some]
    obtain ⟨l, q, e1, e2, e3, e4⟩ := l92Poly_l0 hb (m := v2) v2.toNat 0 [] (p + 1 + 1) (k + 60) (by omega) (by omega) (by simp) (by omega) (by omega) (by omega) (by omega)
    exact ⟨l, q, e1, by omega, by omega, by simp at e4; omega⟩
  · rw [if_neg e0]
    by_cases e1 : v1 = 1
    · rw [if_pos e1, b1]; exact ⟨_, _, rfl, by omega, by omega, b4⟩
    · rw [if_neg e1]
      by_cases e2 : v1 = 2
      · rw [if_pos e2, b1]; exact ⟨_, _, rfl, by omega, by omega, b4⟩
      · rw [if_neg e2]
        by_cases e3 : v1 = 3
        · rw [if_pos e3, b1]; exact ⟨_, _, rfl, by omega, by omega, b4⟩
        · rw [if_neg e3]
          obtain ⟨l, q, s1, s2, s3, s4⟩ := l92Star_ok (k + 40) hb (p := p + 1) (by omega)
          rw [s1]; simp only [Option.bind_some]
          obtain ⟨v5, h5, _, _⟩ := pick_ok (k + 59) hb (p := q) (n := 5) (by omega) (by omega)
          rw [h5]; simp only [Option.bind_some]
          by_cases e5 : v5 = 0
          · rw [if_pos e5, spec_PolyBack_eq _ l (by omega) (by omega)]
            simp only [Option.bind_some]
            refine ⟨_, _, rfl, by omega, by omega, ?_⟩
            split
            · rw [backL_length]; exact s4
            · simp
          · rw [if_neg e5]; exact ⟨_, _, rfl, by omega, by omega, s4⟩
end Go.Proofs.Ytgdhgncdpmalcaa.Pure
namespace Go.Proofs.Ytgdhgncdpmalcaa.Pure
open Go.RowKit Go.Proofs.Ytgdhgncdpmalcaa.Q Go.Proofs.Ytgdhgncdpmalcaa.Ring Go.Proofs.Ytgdhgncdpmalcaa.Geo Go.Proofs.YtgdhgncdpmalcaaW.PrintWords Go.Proofs.YtgdhgncdpmalcaaW.PrintLast Go.Proofs.YtgdhgncdpmalcaaW.PrintMore
theorem DrawPolyPlace_ok (k : Nat) (hk : 100 < k) {bs : List Int} (hbs : ∀ x ∈ bs, (Lit.int .u8 x).wf = true) : ∃ l x y, spec_DrawPolyPlace.f k bs = some (l, x, y) ∧ l.length ≤ 12 := by
  unfold spec_DrawPolyPlace.f
  obtain ⟨b, e1, hb⟩ := open_ok hbs
  rw [e1]; simp only [Option.bind_some]
  obtain ⟨k, rfl⟩ : ∃ m, k = m + 60 := ⟨k - 60, by omega⟩
  obtain ⟨l, q, e2, _, _, hl⟩ := l92Poly_ok k hb (p := 0) (by omega)
  rw [e2]; simp only [Option.bind_some]
  obtain ⟨x, y, r, e3, _⟩ := l91Point_ok (k + 59) hb (p := q) (by omega)
  rw [e3]
  exact ⟨l, x, y, rfl, hl⟩
def plR (l : List Pt) (p : Pt) : Int × Bool := if okS l && ptB p then (placeR l p, true) else (0, false)
theorem implPlace_eq (l : List Pt) (x y : Int) : impl_PolyPlace.f l x y = some (plR l ⟨x, y⟩) := by
  unfold impl_PolyPlace.f plR
  split <;> rfl
theorem specPlaceR {l : List Pt} (hl : l.length ≤ 1048576) (k : Nat) (hk : 3 * l.length + 5 < k) (x y : Int) : spec_PolyPlace.f k l x y = some (plR l ⟨x, y⟩) := specPlace_eq (p := ⟨x, y⟩) hl k hk
theorem plR_yes {l : List Pt} {p : Pt} (h1 : okS l = true) (h2 : ptB p = true) : plR l p = (placeR l p, true) := by unfold plR; rw [h1, h2]; rfl
theorem ptB_pvp {p : Pt} (h : ptB p = true) : PVP p := by
  have := ptB_iff.1 h
  exact PV_iff.2 ⟨this.1.1, this.1.2, this.2.1, this.2.2⟩
theorem Far_l0 {l : List Pt} (hl : l.length ≤ 12) {x7 x14 x16 x18 x21 fy : Int} {x13 x15 x17 x19 x22 : Bool} (suf : List Pt) : ∀ (pre : List Pt) (k : Nat), suf.length < k → l = pre ++ suf →
    ∃ k', laws_FnPolyPlace.l0 k l x7 x13 x14 x15 x16 x17 x18 x19 x21 x22 (pre.all fun p => decide (p.f0 > -10000)) (pre.length : Int) (-10000) fy =
      laws_FnPolyPlace.l0 (k' + 1) l x7 x13 x14 x15 x16 x17 x18 x19 x21 x22 (l.all fun p => decide (p.f0 > -10000)) (l.length : Int) (-10000) fy := by
  induction suf with
  | nil =>
    intro pre k hk he
    obtain ⟨k, rfl⟩ : ∃ m, k = m + 1 := ⟨k - 1, by omega⟩
    rw [List.append_nil] at he
    exact ⟨k, by rw [he]⟩
  | cons y suf ih =>
    intro pre k hk he
    obtain ⟨k, rfl⟩ : ∃ m, k = m + 1 := ⟨k - 1, by omega⟩
    simp only [List.length_cons] at hk
    have hlen : l.length = pre.length + suf.length + 1 := by rw [he]; simp; omega
    have er : rd_T32 l (pre.length : Int) = y := by rw [he]; exact rd_midP pre suf y
    obtain ⟨k', e⟩ := ih (pre ++ [y]) k (by omega) (by rw [he]; simp)
    refine ⟨k', ?_⟩
    rw [← e, laws_FnPolyPlace.l0, if_pos (by omega), next_midP pre y (by omega), List.all_append]
    cases hg : pre.all fun p => decide (p.f0 > -10000)
    · rw [if_neg (by decide), Bool.false_and]
    · rw [if_pos rfl, if_pos (by omega), er, Bool.true_and]
      simp
theorem FnPolyPlace : laws_FnPolyPlace.Pure := by
  intro bs ms _ _ hbs _ _ _
  obtain ⟨K, hK⟩ : ∃ K : Nat, K = 1000 := ⟨_, rfl⟩
  refine ⟨K + 2, ?_⟩
  have big : laws_FnPolyPlace.j0 (K + 2) bs ms true = some true := by rw [laws_FnPolyPlace.j0, if_pos rfl]
  have go : laws_FnPolyPlace.j0 (K + 2) bs ms false = some true := by
    obtain ⟨l, x, y, e1, hl⟩ := DrawPolyPlace_ok (K + 1) (by omega) hbs
    rw [laws_FnPolyPlace.j0, if_neg (by decide), e1]
    simp only [Option.bind_some]
    rw [implPlace_eq, specPlaceR (by omega) _ (by omega)]
    simp only [Option.bind_some, bne_self_eq_false, Bool.false_eq_true, if_false, if_true]
    rw [laws_FnPolyPlace.j1]
    by_cases h : okS l = true ∧ ptB ⟨x, y⟩ = true
    · have hv := (okS_iff.1 h.1).1
      have hc := (cvB_iff.1 hv).1
      obtain ⟨p, hp⟩ : ∃ p : Pt, p = ⟨x, y⟩ := ⟨_, rfl⟩
      have hpx : p.f0 = x := by rw [hp]
      have hpy : p.f1 = y := by rw [hp]
      rw [← hp] at h ⊢
      have hpp := ptB_pvp h.2
      have hpb := ptB_iff.1 h.2
      have ea := plR_yes h.1 h.2
      have hk : ∃ k : Nat, k < l.length ∧ (ms.length : Int) % (l.length : Int) = (k : Int) := ⟨ms.length % l.length, Nat.mod_lt _ (by omega), by omega⟩
      obtain ⟨k, hk1, hk2⟩ := hk
      rw [ea]
      dsimp only
      rw [if_neg (by decide), if_neg (by omega), impl_PolyBack_eq _ _ (by omega), if_pos hv]
      simp only [Option.bind_some]
      rw [implPlace_eq, ← hp, plR_yes (okS_back h.1) h.2, place_back hv hpp, hk2, begunAt_eq (by omega) (by omega)]
      simp only [Option.bind_some]
      rw [implPlace_eq, ← hp, plR_yes (okS_beg h.1 hk1) h.2, place_beg hk1]
      simp only [Option.bind_some]
      have hq : ptB (at_ l k) = true := (cvB_iff.1 hv).2 _ (at_mem hk1)
      rw [if_pos (by omega), if_pos (by omega), at_rd, implPlace_eq, show (⟨(at_ l k).f0, (at_ l k).f1⟩ : Pt) = at_ l k from rfl, plR_yes h.1 hq, place_corner hv hk1]
      simp only [Option.bind_some]
      have hfb : ptB ⟨-10000, y⟩ = true := ptB_iff.2 ⟨by dsimp only; omega, by dsimp only; omega⟩
      rw [implPlace_eq, plR_yes h.1 hfb]
      simp only [Option.bind_some]
      obtain ⟨k', e0⟩ := Far_l0 hl (x7 := placeR l p) (x13 := true) (x14 := placeR l p) (x15 := true) (x16 := placeR l p) (x17 := true) (x18 := 0) (x19 := true) (x21 := placeR l ⟨-10000, y⟩) (x22 := true) (fy := y) l [] K (by omega) rfl
      rw [show (([] : List Pt).all fun p => decide (p.f0 > -10000)) = true from rfl, show (([] : List Pt).length : Int) = 0 from rfl] at e0
      rw [e0, laws_FnPolyPlace.l0, if_neg (by omega), if_pos rfl, if_pos rfl, if_pos rfl, if_pos rfl, if_pos rfl, if_pos rfl, if_pos rfl, if_pos rfl]
      cases ha : l.all fun p => decide (p.f0 > -10000)
      · rfl
      · rw [if_pos rfl, place_far hv (ptB_pvp hfb) (fun i => ?_)]
        · rfl
        · have := of_decide_eq_true (List.all_eq_true.1 ha (PC l i) (at_mem (Nat.mod_lt _ (by omega))))
          dsimp only; omega
    · have ea : plR l ⟨x, y⟩ = (0, false) := by
        unfold plR
        rw [if_neg]
        rw [Bool.and_eq_true]; exact h
      rw [ea]
      simp
  unfold laws_FnPolyPlace.f
  by_cases h1 : (bs.length : Int) > 1048576
  · rw [if_pos h1]; exact big
  · rw [if_neg h1]
    by_cases h2 : (ms.length : Int) > 1048576
    · rw [decide_eq_true h2]; exact big
    · rw [decide_eq_false h2]; exact go
end Go.Proofs.Ytgdhgncdpmalcaa.Pure
