/- Functions of the translation as plain Lean functions, each with a proof that the Go code comes to its answers; written by a program of the prover's (a changed copy of the kit's printer). -/
import Derived.Test.YtfmjhckndlngaaaQ0
import Derived.Test.YtfmjhckndlngaaaQ3
import Derived.Test.YtfmjhckndlngaaaQ5
import Derived.Test.YtfmjhckndlngaaaQ10
import Derived.Test.YtfmjhckndlngaaaQ11
import Derived.Test.YtfmjhckndlngaaaQ22
namespace Go.Proofs.Ytfmjhckndlngaaa.Q
open Go.RowKit Go.Proofs.YtfmjhckndlngaaaW.PrintWords Go.Proofs.YtfmjhckndlngaaaW.PrintLast Go.Proofs.YtfmjhckndlngaaaW.PrintMore
attribute [local go_sem] max2_int min2_int max_two min_two max_three min_three max_four min_four   -- for this text's walks alone
set_option linter.unusedVariables false
set_option linter.unusedSimpArgs false

/-! ### laws_FnShareBest: function 9 -/
mutual
def laws_FnShareBest.j0 : Nat → List Int → List Int → Bool → Option (Bool)
  | 0, _, _, _ => none
  | k + 1, x0, x1, x21 => if x21 = true then (some true) else ((spec_DrawShareOf.f k x0).bind fun bt472 => ((impl_ShareOf.f bt472.1 bt472.2).bind fun bt476 => ((spec_ShareOf.f k bt472.1 bt472.2).bind fun bt480 => (if (bt476.2 != bt480.2) = true then (laws_FnShareBest.j1 k x1 bt472.1 bt472.2 bt476.1 bt476.2 bt480.1 bt480.2 true) else ((laws_sameInts.f k bt476.1 bt480.1).bind fun t484 => (if t484 = true then (laws_FnShareBest.j1 k x1 bt472.1 bt472.2 bt476.1 bt476.2 bt480.1 bt480.2 (!bt476.2)) else (laws_FnShareBest.j1 k x1 bt472.1 bt472.2 bt476.1 bt476.2 bt480.1 bt480.2 true)))))))
def laws_FnShareBest.j1 : Nat → List Int → List Int → Int → List Int → Bool → List Int → Bool → Bool → Option (Bool)
  | 0, _, _, _, _, _, _, _, _ => none
  | k + 1, x1, x5, x6, x7, x8, x9, x10, x51 => if x51 = true then (if (x8 == x10) = true then ((laws_sameInts.f k x7 x9).bind fun t485 => (some t485)) else (some false)) else (if (x7.length : Int) < 2 then (if 0 < (x7.length : Int) then (some ((rd x7 0) == x6)) else (none)) else (if (x7.length : Int) = 0 then (none) else (if (wrap64 ((x7.length : Int) - 1)) = 0 then (none) else ((some (([] : List Int) : List Int)).bind fun y487 => (if y487.length + x7.length < 17592186044416 then ((some (y487 ++ x7 : List Int)).bind fun y490 => (if 0 ≤ ((x1.length : Int) % (x7.length : Int)) then (if ((x1.length : Int) % (x7.length : Int)) < (y490.length : Int) then ((some (y490.set (((x1.length : Int) % (x7.length : Int)) : Int).toNat (wrap64 ((rd y490 ((x1.length : Int) % (x7.length : Int))) - 1)) : List Int)).bind fun y494 => (if 0 ≤ (Int.tmod (wrap64 ((wrap64 (((x1.length : Int) % (x7.length : Int)) + 1)) + (Int.tmod (wrap64 ((x1.length : Int) / 7)) (wrap64 ((x7.length : Int) - 1))))) (x7.length : Int)) then (if (Int.tmod (wrap64 ((wrap64 (((x1.length : Int) % (x7.length : Int)) + 1)) + (Int.tmod (wrap64 ((x1.length : Int) / 7)) (wrap64 ((x7.length : Int) - 1))))) (x7.length : Int)) < (y490.length : Int) then ((impl_ShareFar.f k x5 x6 (y494.set ((Int.tmod (wrap64 ((wrap64 (((x1.length : Int) % (x7.length : Int)) + 1)) + (Int.tmod (wrap64 ((x1.length : Int) / 7)) (wrap64 ((x7.length : Int) - 1))))) (x7.length : Int)) : Int).toNat (wrap64 ((rd y494 (Int.tmod (wrap64 ((wrap64 (((x1.length : Int) % (x7.length : Int)) + 1)) + (Int.tmod (wrap64 ((x1.length : Int) / 7)) (wrap64 ((x7.length : Int) - 1))))) (x7.length : Int))) + 1)))).bind fun t497 => ((impl_ShareFar.f k x5 x6 x7).bind fun t498 => (some (decide (t497 ≥ t498))))) else (none)) else (none))) else (none)) else (none))) else (none))))))
end
def laws_FnShareBest.f (k : Nat) (l0 : List Int) (l1 : List Int) : Option (Bool) := if (l0.length : Int) > 1048576 then (laws_FnShareBest.j0 k l0 l1 true) else (laws_FnShareBest.j0 k l0 l1 (decide ((l1.length : Int) > 1048576)))
theorem laws_FnShareBest.mono_l : ∀ k, (∀ y0 y1 y2, LeO (laws_FnShareBest.j0 k y0 y1 y2) (laws_FnShareBest.j0 (k + 1) y0 y1 y2)) ∧ (∀ y0 y1 y2 y3 y4 y5 y6 y7, LeO (laws_FnShareBest.j1 k y0 y1 y2 y3 y4 y5 y6 y7) (laws_FnShareBest.j1 (k + 1) y0 y1 y2 y3 y4 y5 y6 y7))
  | 0 => ⟨fun _ _ _ r h => by simp [laws_FnShareBest.j0] at h, fun _ _ _ _ _ _ _ _ r h => by simp [laws_FnShareBest.j1] at h⟩
  | k + 1 => by
    obtain ⟨ih0, ih1⟩ := laws_FnShareBest.mono_l k
    refine ⟨?_, ?_⟩
    · intro y0 y1 y2
      unfold laws_FnShareBest.j0
      repeat' first
      | (with_reducible exact ih0 _ _ _)
      | (with_reducible exact ih1 _ _ _ _ _ _ _ _)
      | (with_reducible exact impl_ShareFar.mono _ _ _ _)
      | (with_reducible exact laws_sameInts.mono _ _ _)
      | (with_reducible exact spec_DrawShareOf.mono _ _)
      | (with_reducible exact spec_ShareOf.mono _ _ _)
      | (with_reducible exact LeO.refl _)
      | (with_reducible exact LeO.none _)
      | (with_reducible refine LeO.ite ?_ ?_)
      | (with_reducible refine LeO.bind ?_ (fun _ => ?_))
      | exact ih0 _ _ _
      | exact ih1 _ _ _ _ _ _ _ _
      | exact impl_ShareFar.mono _ _ _ _
      | exact laws_sameInts.mono _ _ _
      | exact spec_DrawShareOf.mono _ _
      | exact spec_ShareOf.mono _ _ _
      | exact LeO.none _
      | refine LeO.ite ?_ ?_
      | refine LeO.bind ?_ (fun _ => ?_)
    · intro y0 y1 y2 y3 y4 y5 y6 y7
      unfold laws_FnShareBest.j1
      repeat' first
      | (with_reducible exact ih0 _ _ _)
      | (with_reducible exact ih1 _ _ _ _ _ _ _ _)
      | (with_reducible exact impl_ShareFar.mono _ _ _ _)
      | (with_reducible exact laws_sameInts.mono _ _ _)
      | (with_reducible exact spec_DrawShareOf.mono _ _)
      | (with_reducible exact spec_ShareOf.mono _ _ _)
      | (with_reducible exact LeO.refl _)
      | (with_reducible exact LeO.none _)
      | (with_reducible refine LeO.ite ?_ ?_)
      | (with_reducible refine LeO.bind ?_ (fun _ => ?_))
      | exact ih0 _ _ _
      | exact ih1 _ _ _ _ _ _ _ _
      | exact impl_ShareFar.mono _ _ _ _
      | exact laws_sameInts.mono _ _ _
      | exact spec_DrawShareOf.mono _ _
      | exact spec_ShareOf.mono _ _ _
      | exact LeO.none _
      | refine LeO.ite ?_ ?_
      | refine LeO.bind ?_ (fun _ => ?_)
theorem laws_FnShareBest.mono : ∀ a0 a1 k, LeO (laws_FnShareBest.f k a0 a1) (laws_FnShareBest.f (k + 1) a0 a1) := by
  intro a0 a1 k
  obtain ⟨ih0, ih1⟩ := laws_FnShareBest.mono_l k
  unfold laws_FnShareBest.f
  repeat' first
      | (with_reducible exact ih0 _ _ _)
      | (with_reducible exact ih1 _ _ _ _ _ _ _ _)
      | (with_reducible exact impl_ShareFar.mono _ _ _ _)
      | (with_reducible exact laws_sameInts.mono _ _ _)
      | (with_reducible exact spec_DrawShareOf.mono _ _)
      | (with_reducible exact spec_ShareOf.mono _ _ _)
      | (with_reducible exact LeO.refl _)
      | (with_reducible exact LeO.none _)
      | (with_reducible refine LeO.ite ?_ ?_)
      | (with_reducible refine LeO.bind ?_ (fun _ => ?_))
      | exact ih0 _ _ _
      | exact ih1 _ _ _ _ _ _ _ _
      | exact impl_ShareFar.mono _ _ _ _
      | exact laws_sameInts.mono _ _ _
      | exact spec_DrawShareOf.mono _ _
      | exact spec_ShareOf.mono _ _ _
      | exact LeO.none _
      | refine LeO.ite ?_ ?_
      | refine LeO.bind ?_ (fun _ => ?_)
set_option maxHeartbeats 8000000 in
set_option maxRecDepth 100000 in
theorem laws_FnShareBest.calls (k : Nat) (A0 : Option Addr) (c0 : Nat) (l0 : List Int) (A1 : Option Addr) (c1 : Nat) (l1 : List Int) (r : Bool) (w : World) (hr0 : Kd.C (Kd.int .u8) w A0 l0.length l0) (hc0 : l0.length ≤ c0) (hr1 : Kd.C (Kd.int .u8) w A1 l1.length l1) (hc1 : l1.length ≤ c1) (h : laws_FnShareBest.f k l0 l1 = some r) (hT0 : r = true) :
    Calls Try.prog 9 #[.slice A0 l0.length c0, .slice A1 l1.length c1] w fun e w' => e = .returned (.bool r) ∧ Below w.heap.size w w' := by
  have hT := Aside0.mk hT0
  clear hT0
  have HR0 := Aside0.mk hr0
  have HC0 := Aside0.mk hc0
  clear hr0 hc0
  have HR1 := Aside0.mk hr1
  have HC1 := Aside0.mk hc1
  clear hr1 hc1
  have HB := Aside0.mk (Below.refl w.heap.size w)
  have H : (if (l0.length : Int) > 1048576 then (laws_FnShareBest.j0 k l0 l1 true) else (laws_FnShareBest.j0 k l0 l1 (decide ((l1.length : Int) > 1048576)))) = some r := h
  clear h
  have HC3 := Aside0.mk H
  clear H
  go_enter Try.func9, Try.ntmps9
  go_upto_region 1 with (fail)
  go_cut [21] (fun v21 wc => ∃ (kq : Nat) (x21_2 : Bool), v21 = .bool x21_2 ∧ Aside0 (laws_FnShareBest.j0 kq l0 l1 x21_2 = some r) ∧ Aside0 (kq ≤ k) ∧ Aside0 (Below w.heap.size w wc))
  case first =>
    have H := HC3.out
    clear HC3
    by_cases c4 : (l0.length : Int) > 1048576
    · rw [if_pos c4] at H
      have c4b0 : decide (1048576 < (l0.length : Int)) = true := decide_eq_true c4
      have c4b1 : decide (1048576 < l0.length) = true := decide_eq_true (by omega)
      clear c4
      (first | rw [c4b0] | (simp only [i64_w, i32_w]; rw [c4b0]) | skip)
      have H' := Aside0.mk H
      clear H
      go_wp2
      go_meet
      case rel => exact ⟨_, (true), (by first | rfl | (simp; done) | (simp [*]; done)), H', ⟨by first | omega | exact Nat.le_refl _⟩, ⟨by repeat (first | (with_reducible first | exact HB.out | apply below_alloc | apply pw_below_drewN | apply below_drew1) | exact HB.out)⟩⟩
    · rw [if_neg c4] at H
      have c4b0 : decide (1048576 < (l0.length : Int)) = false := decide_eq_false c4
      have c4b1 : decide (1048576 < l0.length) = false := decide_eq_false (by omega)
      clear c4
      (first | rw [c4b0] | (simp only [i64_w, i32_w]; rw [c4b0]) | skip)
      have H' := Aside0.mk H
      clear H
      go_wp2
      go_meet
      case rel => exact ⟨_, (decide ((l1.length : Int) > 1048576)), (by first | rfl | (simp; done) | (simp [*]; done)), H', ⟨by first | omega | exact Nat.le_refl _⟩, ⟨by repeat (first | (with_reducible first | exact HB.out | apply below_alloc | apply pw_below_drewN | apply below_drew1) | exact HB.out)⟩⟩
  case rest =>
    clear HC3
    try clear c1
    try clear p2
    try clear c4
    try clear c4b0
    try clear c4b1
    obtain ⟨kq, x21_2, rfl, HA, HJ2, HB⟩ := hcut
    cases kq with
    | zero => exact absurd HA.out (by simp [laws_FnShareBest.j0])
    | succ kj2 =>
      have H := HA.out
      clear HA
      simp only [laws_FnShareBest.j0] at H
      by_cases c5 : x21_2 = true
      · subst c5
        have H1 : (some true) = some r := by rw [if_pos rfl] at H; exact H
        clear H
        have H := H1
        clear H1
        obtain rfl := Option.some.inj H
        go_wp2
        go_ret
        exact ⟨by first | rfl | (simp [errW_none, errW_some] <;> rfl) | (simp [*, errW_none, errW_some] <;> rfl), by repeat (first | (with_reducible first | exact HB.out | apply below_alloc | apply pw_below_drewN | apply below_drew1) | exact HB.out)⟩
      · replace c5 := Bool.eq_false_iff.mpr c5
        subst c5
        have H1 : ((spec_DrawShareOf.f kj2 l0).bind fun bt472 => ((impl_ShareOf.f bt472.1 bt472.2).bind fun bt476 => ((spec_ShareOf.f kj2 bt472.1 bt472.2).bind fun bt480 => (if (bt476.2 != bt480.2) = true then (laws_FnShareBest.j1 kj2 l1 bt472.1 bt472.2 bt476.1 bt476.2 bt480.1 bt480.2 true) else ((laws_sameInts.f kj2 bt476.1 bt480.1).bind fun t484 => (if t484 = true then (laws_FnShareBest.j1 kj2 l1 bt472.1 bt472.2 bt476.1 bt476.2 bt480.1 bt480.2 (!bt476.2)) else (laws_FnShareBest.j1 kj2 l1 bt472.1 bt472.2 bt476.1 bt476.2 bt480.1 bt480.2 true))))))) = some r := by rw [if_neg (show ¬ (false = true) by decide)] at H; exact H
        clear H
        have H := H1
        clear H1
        replace H := Option.bind_eq_some_iff.mp H
        obtain ⟨⟨t472, t473⟩, A60, H⟩ := H
        replace H : ((impl_ShareOf.f t472 t473).bind fun bt476 => ((spec_ShareOf.f kj2 t472 t473).bind fun bt480 => (if (bt476.2 != bt480.2) = true then (laws_FnShareBest.j1 kj2 l1 t472 t473 bt476.1 bt476.2 bt480.1 bt480.2 true) else ((laws_sameInts.f kj2 bt476.1 bt480.1).bind fun t484 => (if t484 = true then (laws_FnShareBest.j1 kj2 l1 t472 t473 bt476.1 bt476.2 bt480.1 bt480.2 (!bt476.2)) else (laws_FnShareBest.j1 kj2 l1 t472 t473 bt476.1 bt476.2 bt480.1 bt480.2 true)))))) = some r := H
        have A6 := Aside0.mk A60
        clear A60
        replace H := Option.bind_eq_some_iff.mp H
        obtain ⟨⟨t476, t477⟩, A70, H⟩ := H
        replace H : ((spec_ShareOf.f kj2 t472 t473).bind fun bt480 => (if (t477 != bt480.2) = true then (laws_FnShareBest.j1 kj2 l1 t472 t473 t476 t477 bt480.1 bt480.2 true) else ((laws_sameInts.f kj2 t476 bt480.1).bind fun t484 => (if t484 = true then (laws_FnShareBest.j1 kj2 l1 t472 t473 t476 t477 bt480.1 bt480.2 (!t477)) else (laws_FnShareBest.j1 kj2 l1 t472 t473 t476 t477 bt480.1 bt480.2 true))))) = some r := H
        have A7 := Aside0.mk A70
        clear A70
        replace H := Option.bind_eq_some_iff.mp H
        obtain ⟨⟨t480, t481⟩, A80, H⟩ := H
        replace H : (if (t477 != t481) = true then (laws_FnShareBest.j1 kj2 l1 t472 t473 t476 t477 t480 t481 true) else ((laws_sameInts.f kj2 t476 t480).bind fun t484 => (if t484 = true then (laws_FnShareBest.j1 kj2 l1 t472 t473 t476 t477 t480 t481 (!t477)) else (laws_FnShareBest.j1 kj2 l1 t472 t473 t476 t477 t480 t481 true)))) = some r := H
        have A8 := Aside0.mk A80
        clear A80
        have HC9 := Aside0.mk H
        clear H
        go_upto_region 6 with (first | ((with_reducible refine gate_callee (f := 26) rfl ?_); refine goesL_ (some 24) rfl rfl Try.func26 (by kernel_rfl) rfl #[.slice A0 l0.length c0] rfl (by (try simp only [List.map_toArray, List.map_cons, List.map_nil]); first | done | rfl | (simp only [List.length_drop, List.length_take]; rfl)) ?_; (with_reducible refine (spec_DrawShareOf.calls kj2 _ _ l0 t472 t473 _ ?side1 ?side2 A6.out).mono ?_); (case side1 => repeat (first | exact (Kd.C_below HR0.out HB.out) | (with_reducible refine Kd.C_alloc ?_ _) | (with_reducible refine Kd.C_drewN ?_ _) | (with_reducible refine Kd.C_drew ?_))); (case side2 => exact HC0.out); rintro e w10 ⟨v474, rfl, ho0, hb⟩; refine ⟨_, rfl, ?_⟩; have n0_ := Aside0.mk (Kd.R_lower ho0 (below_size (by repeat (first | (with_reducible first | exact HB.out | apply below_alloc | apply pw_below_drewN | apply below_drew1) | exact HB.out)))); have n1_ := Aside0.mk (below_step (by repeat (first | (with_reducible first | exact HB.out | apply below_alloc | apply pw_below_drewN | apply below_drew1) | exact HB.out)) hb); clear HB; have HO475 := n0_; have HB := n1_; clear n0_ n1_; (try clear hb); (try clear hb2); (try clear hk); (try clear hi); (try clear ho0); obtain ⟨Ao11, co11, eo11⟩ := Kd.R_slice HO475.out; subst eo11) | ((with_reducible refine gate_callee (f := 19) rfl ?_); refine goesL_ (some 30) rfl rfl Try.func19 (by kernel_rfl) rfl #[.slice Ao11 t472.length co11, .int .i64 t473] rfl (by (try simp only [List.map_toArray, List.map_cons, List.map_nil]); first | done | rfl | (simp only [List.length_drop, List.length_take]; rfl)) ?_; (with_reducible refine (impl_ShareOf.calls _ _ t472 t473 t476 t477 _ ?side1 ?side2 A7.out).mono ?_); (case side1 => repeat (first | exact (Kd.R_reads' HO475.out).2.2 | (with_reducible refine Kd.C_alloc ?_ _) | (with_reducible refine Kd.C_drewN ?_ _) | (with_reducible refine Kd.C_drew ?_))); (case side2 => exact (Kd.R_reads' HO475.out).2.1); rintro e w12 ⟨v478, rfl, ho0, hb⟩; refine ⟨_, rfl, ?_⟩; have n0_ := Aside0.mk (Kd.R_elder' (by (with_reducible repeat (first | apply Kd.R_alloc | apply Kd.R_drewN | apply Kd.R_drew)); exact HO475.out) (Kd.R_base ho0) hb); have n1_ := Aside0.mk (Kd.R_lower (Kd.R_new' ho0 (Kd.R_lt (by (with_reducible repeat (first | apply Kd.R_alloc | apply Kd.R_drewN | apply Kd.R_drew)); exact HO475.out))) (below_size (by repeat (first | (with_reducible first | exact HB.out | apply below_alloc | apply pw_below_drewN | apply below_drew1) | exact HB.out)))); have n2_ := Aside0.mk (below_step (by repeat (first | (with_reducible first | exact HB.out | apply below_alloc | apply pw_below_drewN | apply below_drew1) | exact HB.out)) hb); clear HO475; clear HB; have HO475 := n0_; have HO479 := n1_; have HB := n2_; clear n0_ n1_ n2_; (try clear hb); (try clear hb2); (try clear hk); (try clear hi); (try clear ho0)) | ((with_reducible refine gate_callee (f := 18) rfl ?_); refine goesL_ (some 36) rfl rfl Try.func18 (by kernel_rfl) rfl #[.slice Ao11 t472.length co11, .int .i64 t473] rfl (by (try simp only [List.map_toArray, List.map_cons, List.map_nil]); first | done | rfl | (simp only [List.length_drop, List.length_take]; rfl)) ?_; (with_reducible refine (spec_ShareOf.calls kj2 _ _ t472 t473 t480 t481 _ ?side1 ?side2 A8.out).mono ?_); (case side1 => repeat (first | exact (Kd.R_reads' HO475.out).2.2 | (with_reducible refine Kd.C_alloc ?_ _) | (with_reducible refine Kd.C_drewN ?_ _) | (with_reducible refine Kd.C_drew ?_))); (case side2 => exact (Kd.R_reads' HO475.out).2.1); rintro e w13 ⟨v482, rfl, ho0, hb⟩; refine ⟨_, rfl, ?_⟩; have n0_ := Aside0.mk (Kd.R_elder' (by (with_reducible repeat (first | apply Kd.R_alloc | apply Kd.R_drewN | apply Kd.R_drew)); exact HO475.out) (Kd.R_base ho0) hb); have n1_ := Aside0.mk (Kd.R_elder' (by (with_reducible repeat (first | apply Kd.R_alloc | apply Kd.R_drewN | apply Kd.R_drew)); exact HO479.out) (Kd.R_base ho0) hb); have n2_ := Aside0.mk (Kd.R_lower (Kd.R_new' (Kd.R_new' ho0 (Kd.R_lt (by (with_reducible repeat (first | apply Kd.R_alloc | apply Kd.R_drewN | apply Kd.R_drew)); exact HO475.out))) (Kd.R_lt (by (with_reducible repeat (first | apply Kd.R_alloc | apply Kd.R_drewN | apply Kd.R_drew)); exact HO479.out))) (below_size (by repeat (first | (with_reducible first | exact HB.out | apply below_alloc | apply pw_below_drewN | apply below_drew1) | exact HB.out)))); have n3_ := Aside0.mk (below_step (by repeat (first | (with_reducible first | exact HB.out | apply below_alloc | apply pw_below_drewN | apply below_drew1) | exact HB.out)) hb); clear HO475; clear HO479; clear HB; have HO475 := n0_; have HO479 := n1_; have HO483 := n2_; have HB := n3_; clear n0_ n1_ n2_ n3_; (try clear hb); (try clear hb2); (try clear hk); (try clear hi); (try clear ho0)))
        (try simp only [Act.put, List.setIfInBounds_toArray, List.set_cons_zero, List.set_cons_succ])
        go_cut [51] (fun v51 wc => ∃ (kq : Nat) (x51_8 : Bool), v51 = .bool x51_8 ∧ Aside0 (laws_FnShareBest.j1 kq l1 t472 t473 t476 t477 t480 t481 x51_8 = some r) ∧ Aside0 (kq ≤ kj2) ∧ Aside0 (Kd.R (Kd.int .i64) 3 wc w.heap.size (fun k_ => some k_ ≠ (v478 : Value).ownBlock ∧ some k_ ≠ (v482 : Value).ownBlock) (.slice Ao11 t472.length co11) t472) ∧ Aside0 (Kd.R (Kd.int .i64) 3 wc w.heap.size (fun k_ => some k_ ≠ ((.slice Ao11 t472.length co11) : Value).ownBlock ∧ some k_ ≠ (v482 : Value).ownBlock) v478 t476) ∧ Aside0 (Kd.R (Kd.int .i64) 3 wc w.heap.size (fun k_ => some k_ ≠ ((.slice Ao11 t472.length co11) : Value).ownBlock ∧ some k_ ≠ (v478 : Value).ownBlock) v482 t480) ∧ Aside0 (Below w.heap.size w wc))
        case first =>
          have H := HC9.out
          clear HC9
          by_cases c14 : (t477 != t481) = true
          · rw [if_pos c14] at H
            have c14b0 : (t477 != t481) = true := c14
            (try (have c14b1 : decide (t477 = t481) = false := by simpa using c14))
            (try (have c14b2 : (t477 == t481) = false := by simpa using c14))
            (try (have c14b3 : ¬ (t477 = t481) := by simpa using c14))
            clear c14
            (first | rw [c14b0] | (simp only [i64_w, i32_w]; rw [c14b0]) | skip)
            have H' := Aside0.mk H
            clear H
            go_wp2
            go_meet
            case rel => exact ⟨_, (true), (by first | rfl | (simp; done) | (simp [*]; done)), H', ⟨by have := HJ2.out; first | omega | exact Nat.le_refl _⟩, ⟨by (with_reducible repeat (first | apply Kd.R_alloc | apply Kd.R_drewN | apply Kd.R_drew)); exact Kd.R_mono HO475.out (fun _ hk => ⟨hk.1.2, hk.2⟩)⟩, ⟨by (with_reducible repeat (first | apply Kd.R_alloc | apply Kd.R_drewN | apply Kd.R_drew)); exact Kd.R_mono HO479.out (fun _ hk => ⟨hk.1.2, hk.2⟩)⟩, ⟨by (with_reducible repeat (first | apply Kd.R_alloc | apply Kd.R_drewN | apply Kd.R_drew)); exact Kd.R_mono HO483.out (fun _ hk => ⟨hk.1.2, hk.2⟩)⟩, ⟨by repeat (first | (with_reducible first | exact HB.out | apply below_alloc | apply pw_below_drewN | apply below_drew1) | exact HB.out)⟩⟩
          · rw [if_neg c14] at H
            have c14b0 : (t477 != t481) = false := by simpa using c14
            (try (have c14b1 : decide (t477 = t481) = true := by simpa using c14))
            (try (have c14b2 : (t477 == t481) = true := by simpa using c14))
            clear c14
            (first | rw [c14b0] | (simp only [i64_w, i32_w]; rw [c14b0]) | skip)
            replace H := Option.bind_eq_some_iff.mp H
            obtain ⟨t484, A150, H⟩ := H
            replace H : (if t484 = true then (laws_FnShareBest.j1 kj2 l1 t472 t473 t476 t477 t480 t481 (!t477)) else (laws_FnShareBest.j1 kj2 l1 t472 t473 t476 t477 t480 t481 true)) = some r := H
            have A15 := Aside0.mk A150
            clear A150
            by_cases c16 : t484 = true
            · subst c16
              have H1 : (laws_FnShareBest.j1 kj2 l1 t472 t473 t476 t477 t480 t481 (!t477)) = some r := by rw [if_pos rfl] at H; exact H
              clear H
              have H := H1
              clear H1
              have H' := Aside0.mk H
              clear H
              obtain ⟨Ao17, co17, eo17⟩ := Kd.R_slice HO479.out
              subst eo17
              obtain ⟨Ao18, co18, eo18⟩ := Kd.R_slice HO483.out
              subst eo18
              go_wp2_with (first | (go_at_call 27; (with_reducible refine (laws_sameInts.calls kj2 _ _ t476 _ _ t480 true _ ?side1 ?side2 ?side3 ?side4 A15.out).mono ?_); (case side1 => repeat (first | exact (Kd.R_reads' HO479.out).2.2 | (with_reducible refine Kd.C_alloc ?_ _) | (with_reducible refine Kd.C_drewN ?_ _) | (with_reducible refine Kd.C_drew ?_))); (case side2 => exact (Kd.R_reads' HO479.out).2.1); (case side3 => repeat (first | exact (Kd.R_reads' HO483.out).2.2 | (with_reducible refine Kd.C_alloc ?_ _) | (with_reducible refine Kd.C_drewN ?_ _) | (with_reducible refine Kd.C_drew ?_))); (case side4 => exact (Kd.R_reads' HO483.out).2.1); rintro e w' ⟨rfl, ⟨nd, rfl⟩⟩))
              go_meet
              case rel => exact ⟨_, (!t477), (by first | rfl | (simp; done) | (simp [*]; done)), H', ⟨by have := HJ2.out; first | omega | exact Nat.le_refl _⟩, ⟨by (with_reducible repeat (first | apply Kd.R_alloc | apply Kd.R_drewN | apply Kd.R_drew)); exact Kd.R_mono HO475.out (fun _ hk => ⟨hk.1.2, hk.2⟩)⟩, ⟨by (with_reducible repeat (first | apply Kd.R_alloc | apply Kd.R_drewN | apply Kd.R_drew)); exact Kd.R_mono HO479.out (fun _ hk => ⟨hk.1.2, hk.2⟩)⟩, ⟨by (with_reducible repeat (first | apply Kd.R_alloc | apply Kd.R_drewN | apply Kd.R_drew)); exact Kd.R_mono HO483.out (fun _ hk => ⟨hk.1.2, hk.2⟩)⟩, ⟨by repeat (first | (with_reducible first | exact HB.out | apply below_alloc | apply pw_below_drewN | apply below_drew1) | exact HB.out)⟩⟩
            · replace c16 := Bool.eq_false_iff.mpr c16
              subst c16
              have H1 : (laws_FnShareBest.j1 kj2 l1 t472 t473 t476 t477 t480 t481 true) = some r := by rw [if_neg (show ¬ (false = true) by decide)] at H; exact H
              clear H
              have H := H1
              clear H1
              have H' := Aside0.mk H
              clear H
              obtain ⟨Ao19, co19, eo19⟩ := Kd.R_slice HO479.out
              subst eo19
              obtain ⟨Ao20, co20, eo20⟩ := Kd.R_slice HO483.out
              subst eo20
              go_wp2_with (first | (go_at_call 27; (with_reducible refine (laws_sameInts.calls kj2 _ _ t476 _ _ t480 false _ ?side1 ?side2 ?side3 ?side4 A15.out).mono ?_); (case side1 => repeat (first | exact (Kd.R_reads' HO479.out).2.2 | (with_reducible refine Kd.C_alloc ?_ _) | (with_reducible refine Kd.C_drewN ?_ _) | (with_reducible refine Kd.C_drew ?_))); (case side2 => exact (Kd.R_reads' HO479.out).2.1); (case side3 => repeat (first | exact (Kd.R_reads' HO483.out).2.2 | (with_reducible refine Kd.C_alloc ?_ _) | (with_reducible refine Kd.C_drewN ?_ _) | (with_reducible refine Kd.C_drew ?_))); (case side4 => exact (Kd.R_reads' HO483.out).2.1); rintro e w' ⟨rfl, ⟨nd, rfl⟩⟩))
              go_meet
              case rel => exact ⟨_, (true), (by first | rfl | (simp; done) | (simp [*]; done)), H', ⟨by have := HJ2.out; first | omega | exact Nat.le_refl _⟩, ⟨by (with_reducible repeat (first | apply Kd.R_alloc | apply Kd.R_drewN | apply Kd.R_drew)); exact Kd.R_mono HO475.out (fun _ hk => ⟨hk.1.2, hk.2⟩)⟩, ⟨by (with_reducible repeat (first | apply Kd.R_alloc | apply Kd.R_drewN | apply Kd.R_drew)); exact Kd.R_mono HO479.out (fun _ hk => ⟨hk.1.2, hk.2⟩)⟩, ⟨by (with_reducible repeat (first | apply Kd.R_alloc | apply Kd.R_drewN | apply Kd.R_drew)); exact Kd.R_mono HO483.out (fun _ hk => ⟨hk.1.2, hk.2⟩)⟩, ⟨by repeat (first | (with_reducible first | exact HB.out | apply below_alloc | apply pw_below_drewN | apply below_drew1) | exact HB.out)⟩⟩
        case rest =>
          clear HC9
          try clear c1
          try clear c2
          try clear p2
          try clear c4
          try clear c4b0
          try clear c4b1
          try clear c5
          try clear c9
          try clear c14
          try clear c14b0
          try clear c14b1
          try clear c14b2
          try clear c16
          try clear c18
          try clear c19
          try clear p2
          obtain ⟨kq, x51_8, rfl, HA, HJ8, HO_5, HO_7, HO_9, HB⟩ := hcut
          cases kq with
          | zero => exact absurd HA.out (by simp [laws_FnShareBest.j1])
          | succ kj8 =>
            have H := HA.out
            clear HA
            simp only [laws_FnShareBest.j1] at H
            by_cases c21 : x51_8 = true
            · subst c21
              have H1 : (if (t477 == t481) = true then ((laws_sameInts.f kj8 t476 t480).bind fun t485 => (some t485)) else (some false)) = some r := by rw [if_pos rfl] at H; exact H
              clear H
              have H := H1
              clear H1
              by_cases c22 : (t477 == t481) = true
              · rw [if_pos c22] at H
                have c22b0 : (t477 == t481) = true := c22
                (try (have c22b1 : decide (t477 = t481) = true := by simpa using c22))
                (try (have c22b2 : (t477 == t481) = true := by simpa using c22))
                clear c22
                replace H := Option.bind_eq_some_iff.mp H
                obtain ⟨t485, A230, H⟩ := H
                replace H : (some t485) = some r := H
                have A23 := Aside0.mk A230
                clear A230
                obtain rfl := Option.some.inj H
                obtain ⟨Ao24, co24, eo24⟩ := Kd.R_slice HO_7.out
                subst eo24
                obtain ⟨Ao25, co25, eo25⟩ := Kd.R_slice HO_9.out
                subst eo25
                go_wp2_with (first | (go_at_call 27; (with_reducible refine (laws_sameInts.calls kj8 _ _ t476 _ _ t480 t485 _ ?side1 ?side2 ?side3 ?side4 A23.out).mono ?_); (case side1 => repeat (first | exact (Kd.R_reads' HO_7.out).2.2 | (with_reducible refine Kd.C_alloc ?_ _) | (with_reducible refine Kd.C_drewN ?_ _) | (with_reducible refine Kd.C_drew ?_))); (case side2 => exact (Kd.R_reads' HO_7.out).2.1); (case side3 => repeat (first | exact (Kd.R_reads' HO_9.out).2.2 | (with_reducible refine Kd.C_alloc ?_ _) | (with_reducible refine Kd.C_drewN ?_ _) | (with_reducible refine Kd.C_drew ?_))); (case side4 => exact (Kd.R_reads' HO_9.out).2.1); rintro e w' ⟨rfl, ⟨nd, rfl⟩⟩))
                go_ret
                exact ⟨by first | rfl | (simp [errW_none, errW_some] <;> rfl) | (simp [*, errW_none, errW_some] <;> rfl), by repeat (first | (with_reducible first | exact HB.out | apply below_alloc | apply pw_below_drewN | apply below_drew1) | exact HB.out)⟩
              · rw [if_neg c22] at H
                have c22b0 : (t477 == t481) = false := by simpa using c22
                (try (have c22b1 : decide (t477 = t481) = false := by simpa using c22))
                (try (have c22b2 : (t477 == t481) = false := by simpa using c22))
                (try (have c22b3 : ¬ (t477 = t481) := by simpa using c22))
                clear c22
                exact absurd ((Option.some.inj H).trans hT.out) (by decide)
            · replace c21 := Bool.eq_false_iff.mpr c21
              subst c21
              have H1 : (if (t476.length : Int) < 2 then (if 0 < (t476.length : Int) then (some ((rd t476 0) == t473)) else (none)) else (if (t476.length : Int) = 0 then (none) else (if (wrap64 ((t476.length : Int) - 1)) = 0 then (none) else ((some (([] : List Int) : List Int)).bind fun y487 => (if y487.length + t476.length < 17592186044416 then ((some (y487 ++ t476 : List Int)).bind fun y490 => (if 0 ≤ ((l1.length : Int) % (t476.length : Int)) then (if ((l1.length : Int) % (t476.length : Int)) < (y490.length : Int) then ((some (y490.set (((l1.length : Int) % (t476.length : Int)) : Int).toNat (wrap64 ((rd y490 ((l1.length : Int) % (t476.length : Int))) - 1)) : List Int)).bind fun y494 => (if 0 ≤ (Int.tmod (wrap64 ((wrap64 (((l1.length : Int) % (t476.length : Int)) + 1)) + (Int.tmod (wrap64 ((l1.length : Int) / 7)) (wrap64 ((t476.length : Int) - 1))))) (t476.length : Int)) then (if (Int.tmod (wrap64 ((wrap64 (((l1.length : Int) % (t476.length : Int)) + 1)) + (Int.tmod (wrap64 ((l1.length : Int) / 7)) (wrap64 ((t476.length : Int) - 1))))) (t476.length : Int)) < (y490.length : Int) then ((impl_ShareFar.f kj8 t472 t473 (y494.set ((Int.tmod (wrap64 ((wrap64 (((l1.length : Int) % (t476.length : Int)) + 1)) + (Int.tmod (wrap64 ((l1.length : Int) / 7)) (wrap64 ((t476.length : Int) - 1))))) (t476.length : Int)) : Int).toNat (wrap64 ((rd y494 (Int.tmod (wrap64 ((wrap64 (((l1.length : Int) % (t476.length : Int)) + 1)) + (Int.tmod (wrap64 ((l1.length : Int) / 7)) (wrap64 ((t476.length : Int) - 1))))) (t476.length : Int))) + 1)))).bind fun t497 => ((impl_ShareFar.f kj8 t472 t473 t476).bind fun t498 => (some (decide (t497 ≥ t498))))) else (none)) else (none))) else (none)) else (none))) else (none)))))) = some r := by rw [if_neg (show ¬ (false = true) by decide)] at H; exact H
              clear H
              have H := H1
              clear H1
              by_cases c26 : (t476.length : Int) < 2
              · rw [if_pos c26] at H
                have c26b0 : decide ((t476.length : Int) < 2) = true := decide_eq_true c26
                have c26b1 : decide (t476.length < 2) = true := decide_eq_true (by omega)
                clear c26
                by_cases c27 : 0 < (t476.length : Int)
                · rw [if_pos c27] at H
                  have c27b0 : decide (0 < (t476.length : Int)) = true := decide_eq_true c27
                  have c27b1 : decide (0 < t476.length) = true := decide_eq_true (by omega)
                  clear c27
                  obtain rfl := Option.some.inj H
                  obtain ⟨Ao28, co28, eo28⟩ := Kd.R_slice HO_7.out
                  subst eo28
                  have p486 : 0 ≤ (0 : Int) := (by omega)
                  have q486 : 0 < (t476.length : Int) := of_decide_eq_true (by first | (with_reducible assumption) | assumption)
                  obtain ⟨ad486, e486, hx486_0⟩ := Kd.at_int (Kd.R_reads' HO_7.out).2.2 0 p486 q486
                  cases e486
                  have qi486 : (0 < t476.length) = True := eq_true (by omega)
                  (try rw [show ((0 : Int)).toNat = 0 from rfl] at hx486_0)
                  (try rw [Addr.add_zero'] at hx486_0)
                  replace p486 := eq_true p486
                  replace q486 := eq_true q486
                  go_wp2
                  go_ret
                  exact ⟨by first | rfl | (simp [errW_none, errW_some] <;> rfl) | (simp [*, errW_none, errW_some] <;> rfl), by repeat (first | (with_reducible first | exact HB.out | apply below_alloc | apply pw_below_drewN | apply below_drew1) | exact HB.out)⟩
                · rw [if_neg c27] at H
                  exact absurd H (by simp)
              · rw [if_neg c26] at H
                have c26b0 : decide ((t476.length : Int) < 2) = false := decide_eq_false c26
                have c26b1 : decide (t476.length < 2) = false := decide_eq_false (by omega)
                clear c26
                by_cases c29 : (t476.length : Int) = 0
                · rw [if_pos c29] at H
                  exact absurd H (by simp)
                · rw [if_neg c29] at H
                  have c29b0 : ((t476.length : Int) == 0) = false := beq_eq_false_iff_ne.mpr c29
                  have c29b1 : ((t476.length : Int) != 0) = true := bne_iff_ne.mpr c29
                  have c29b2 : ¬ (t476 = []) := fun h_ => c29 (by rw [h_]; rfl)
                  by_cases c30 : (wrap64 ((t476.length : Int) - 1)) = 0
                  · rw [if_pos c30] at H
                    exact absurd H (by simp)
                  · rw [if_neg c30] at H
                    have c30b0 : ((wrap64 ((t476.length : Int) - 1)) == 0) = false := beq_eq_false_iff_ne.mpr c30
                    have c30b1 : ((wrap64 ((t476.length : Int) - 1)) != 0) = true := bne_iff_ne.mpr c30
                    obtain ⟨y487, hy487⟩ : ∃ y_ : List Int, y_ = (([] : List Int)) := ⟨_, rfl⟩
                    replace H : (if y487.length + t476.length < 17592186044416 then ((some (y487 ++ t476 : List Int)).bind fun y490 => (if 0 ≤ ((l1.length : Int) % (t476.length : Int)) then (if ((l1.length : Int) % (t476.length : Int)) < (y490.length : Int) then ((some (y490.set (((l1.length : Int) % (t476.length : Int)) : Int).toNat (wrap64 ((rd y490 ((l1.length : Int) % (t476.length : Int))) - 1)) : List Int)).bind fun y494 => (if 0 ≤ (Int.tmod (wrap64 ((wrap64 (((l1.length : Int) % (t476.length : Int)) + 1)) + (Int.tmod (wrap64 ((l1.length : Int) / 7)) (wrap64 ((t476.length : Int) - 1))))) (t476.length : Int)) then (if (Int.tmod (wrap64 ((wrap64 (((l1.length : Int) % (t476.length : Int)) + 1)) + (Int.tmod (wrap64 ((l1.length : Int) / 7)) (wrap64 ((t476.length : Int) - 1))))) (t476.length : Int)) < (y490.length : Int) then ((impl_ShareFar.f kj8 t472 t473 (y494.set ((Int.tmod (wrap64 ((wrap64 (((l1.length : Int) % (t476.length : Int)) + 1)) + (Int.tmod (wrap64 ((l1.length : Int) / 7)) (wrap64 ((t476.length : Int) - 1))))) (t476.length : Int)) : Int).toNat (wrap64 ((rd y494 (Int.tmod (wrap64 ((wrap64 (((l1.length : Int) % (t476.length : Int)) + 1)) + (Int.tmod (wrap64 ((l1.length : Int) / 7)) (wrap64 ((t476.length : Int) - 1))))) (t476.length : Int))) + 1)))).bind fun t497 => ((impl_ShareFar.f kj8 t472 t473 t476).bind fun t498 => (some (decide (t497 ≥ t498))))) else (none)) else (none))) else (none)) else (none))) else (none)) = some r := by first | (rw [hy487]; with_reducible exact H) | (have H2_ := (Option.bind_some _ _).symm.trans H; rw [hy487]; with_reducible exact H2_) | (have H2_ := (Option.bind_some _ _).symm.trans H; with_reducible exact H2_) | with_reducible exact H | (rw [hy487]; exact H) | exact H
                    have Ny487 := Aside0.mk hy487
                    clear hy487
                    by_cases c31 : y487.length + t476.length < 17592186044416
                    · rw [if_pos c31] at H
                      have LMc31 := Aside0.mk c31
                      clear c31
                      obtain ⟨y490, hy490⟩ : ∃ y_ : List Int, y_ = (y487 ++ t476) := ⟨_, rfl⟩
                      replace H : (if 0 ≤ ((l1.length : Int) % (t476.length : Int)) then (if ((l1.length : Int) % (t476.length : Int)) < (y490.length : Int) then ((some (y490.set (((l1.length : Int) % (t476.length : Int)) : Int).toNat (wrap64 ((rd y490 ((l1.length : Int) % (t476.length : Int))) - 1)) : List Int)).bind fun y494 => (if 0 ≤ (Int.tmod (wrap64 ((wrap64 (((l1.length : Int) % (t476.length : Int)) + 1)) + (Int.tmod (wrap64 ((l1.length : Int) / 7)) (wrap64 ((t476.length : Int) - 1))))) (t476.length : Int)) then (if (Int.tmod (wrap64 ((wrap64 (((l1.length : Int) % (t476.length : Int)) + 1)) + (Int.tmod (wrap64 ((l1.length : Int) / 7)) (wrap64 ((t476.length : Int) - 1))))) (t476.length : Int)) < (y490.length : Int) then ((impl_ShareFar.f kj8 t472 t473 (y494.set ((Int.tmod (wrap64 ((wrap64 (((l1.length : Int) % (t476.length : Int)) + 1)) + (Int.tmod (wrap64 ((l1.length : Int) / 7)) (wrap64 ((t476.length : Int) - 1))))) (t476.length : Int)) : Int).toNat (wrap64 ((rd y494 (Int.tmod (wrap64 ((wrap64 (((l1.length : Int) % (t476.length : Int)) + 1)) + (Int.tmod (wrap64 ((l1.length : Int) / 7)) (wrap64 ((t476.length : Int) - 1))))) (t476.length : Int))) + 1)))).bind fun t497 => ((impl_ShareFar.f kj8 t472 t473 t476).bind fun t498 => (some (decide (t497 ≥ t498))))) else (none)) else (none))) else (none)) else (none)) = some r := by first | (rw [hy490]; with_reducible exact H) | (have H2_ := (Option.bind_some _ _).symm.trans H; rw [hy490]; with_reducible exact H2_) | (have H2_ := (Option.bind_some _ _).symm.trans H; with_reducible exact H2_) | with_reducible exact H | (rw [hy490]; exact H) | exact H
                      have Ny490 := Aside0.mk hy490
                      clear hy490
                      obtain ⟨ji32, hji32⟩ : ∃ j_ : Int, ((l1.length : Int) % (t476.length : Int)) = j_ := ⟨_, rfl⟩
                      replace H : (if 0 ≤ (ji32) then (if (ji32) < (y490.length : Int) then ((some (y490.set ((ji32) : Int).toNat (wrap64 ((rd y490 (ji32)) - 1)) : List Int)).bind fun y494 => (if 0 ≤ (Int.tmod (wrap64 ((wrap64 ((ji32) + 1)) + (Int.tmod (wrap64 ((l1.length : Int) / 7)) (wrap64 ((t476.length : Int) - 1))))) (t476.length : Int)) then (if (Int.tmod (wrap64 ((wrap64 ((ji32) + 1)) + (Int.tmod (wrap64 ((l1.length : Int) / 7)) (wrap64 ((t476.length : Int) - 1))))) (t476.length : Int)) < (y490.length : Int) then ((impl_ShareFar.f kj8 t472 t473 (y494.set ((Int.tmod (wrap64 ((wrap64 ((ji32) + 1)) + (Int.tmod (wrap64 ((l1.length : Int) / 7)) (wrap64 ((t476.length : Int) - 1))))) (t476.length : Int)) : Int).toNat (wrap64 ((rd y494 (Int.tmod (wrap64 ((wrap64 ((ji32) + 1)) + (Int.tmod (wrap64 ((l1.length : Int) / 7)) (wrap64 ((t476.length : Int) - 1))))) (t476.length : Int))) + 1)))).bind fun t497 => ((impl_ShareFar.f kj8 t472 t473 t476).bind fun t498 => (some (decide (t497 ≥ t498))))) else (none)) else (none))) else (none)) else (none)) = some r := by first | (rw [hji32] at H; exact H) | (simp only [hji32] at H ⊢; exact H)
                      by_cases c33 : 0 ≤ (ji32)
                      · rw [if_pos c33] at H
                        have c33b0 : decide (0 ≤ (ji32)) = true := decide_eq_true c33
                        clear c33
                        by_cases c34 : (ji32) < (y490.length : Int)
                        · rw [if_pos c34] at H
                          have c34b0 : decide ((ji32) < (y490.length : Int)) = true := decide_eq_true c34
                          clear c34
                          obtain ⟨y494, hy494⟩ : ∃ y_ : List Int, y_ = (y490.set ((ji32) : Int).toNat (wrap64 ((rd y490 (ji32)) - 1))) := ⟨_, rfl⟩
                          replace H : (if 0 ≤ (Int.tmod (wrap64 ((wrap64 ((ji32) + 1)) + (Int.tmod (wrap64 ((l1.length : Int) / 7)) (wrap64 ((t476.length : Int) - 1))))) (t476.length : Int)) then (if (Int.tmod (wrap64 ((wrap64 ((ji32) + 1)) + (Int.tmod (wrap64 ((l1.length : Int) / 7)) (wrap64 ((t476.length : Int) - 1))))) (t476.length : Int)) < (y490.length : Int) then ((impl_ShareFar.f kj8 t472 t473 (y494.set ((Int.tmod (wrap64 ((wrap64 ((ji32) + 1)) + (Int.tmod (wrap64 ((l1.length : Int) / 7)) (wrap64 ((t476.length : Int) - 1))))) (t476.length : Int)) : Int).toNat (wrap64 ((rd y494 (Int.tmod (wrap64 ((wrap64 ((ji32) + 1)) + (Int.tmod (wrap64 ((l1.length : Int) / 7)) (wrap64 ((t476.length : Int) - 1))))) (t476.length : Int))) + 1)))).bind fun t497 => ((impl_ShareFar.f kj8 t472 t473 t476).bind fun t498 => (some (decide (t497 ≥ t498))))) else (none)) else (none)) = some r := by first | (rw [hy494]; with_reducible exact H) | (have H2_ := (Option.bind_some _ _).symm.trans H; rw [hy494]; with_reducible exact H2_) | (have H2_ := (Option.bind_some _ _).symm.trans H; with_reducible exact H2_) | with_reducible exact H | (rw [hy494]; exact H) | exact H
                          have Ny494 := Aside0.mk hy494
                          clear hy494
                          obtain ⟨ji36, hji36⟩ : ∃ j_ : Int, (Int.tmod (wrap64 ((wrap64 ((ji32) + 1)) + (Int.tmod (wrap64 ((l1.length : Int) / 7)) (wrap64 ((t476.length : Int) - 1))))) (t476.length : Int)) = j_ := ⟨_, rfl⟩
                          replace H : (if 0 ≤ (ji36) then (if (ji36) < (y490.length : Int) then ((impl_ShareFar.f kj8 t472 t473 (y494.set ((ji36) : Int).toNat (wrap64 ((rd y494 (ji36)) + 1)))).bind fun t497 => ((impl_ShareFar.f kj8 t472 t473 t476).bind fun t498 => (some (decide (t497 ≥ t498))))) else (none)) else (none)) = some r := by first | (rw [hji36] at H; exact H) | (simp only [hji36] at H ⊢; exact H)
                          by_cases c37 : 0 ≤ (ji36)
                          · rw [if_pos c37] at H
                            have c37b0 : decide (0 ≤ (ji36)) = true := decide_eq_true c37
                            clear c37
                            by_cases c38 : (ji36) < (y490.length : Int)
                            · rw [if_pos c38] at H
                              have c38b0 : decide ((ji36) < (y490.length : Int)) = true := decide_eq_true c38
                              clear c38
                              obtain ⟨y496, hy496⟩ : ∃ y_ : List Int, y_ = (y494.set ((ji36) : Int).toNat (wrap64 ((rd y494 (ji36)) + 1))) := ⟨_, rfl⟩
                              replace H : ((impl_ShareFar.f kj8 t472 t473 y496).bind fun t497 => ((impl_ShareFar.f kj8 t472 t473 t476).bind fun t498 => (some (decide (t497 ≥ t498))))) = some r := by first | (rw [hy496]; with_reducible exact H) | (have H2_ := (Option.bind_some _ _).symm.trans H; rw [hy496]; with_reducible exact H2_) | (have H2_ := (Option.bind_some _ _).symm.trans H; with_reducible exact H2_) | with_reducible exact H | (rw [hy496]; exact H) | exact H
                              have Ny496 := Aside0.mk hy496
                              clear hy496
                              replace H := Option.bind_eq_some_iff.mp H
                              obtain ⟨t497, A400, H⟩ := H
                              replace H : ((impl_ShareFar.f kj8 t472 t473 t476).bind fun t498 => (some (decide (t497 ≥ t498)))) = some r := H
                              have A40 := Aside0.mk A400
                              clear A400
                              replace H := Option.bind_eq_some_iff.mp H
                              obtain ⟨t498, A410, H⟩ := H
                              replace H : (some (decide (t497 ≥ t498))) = some r := H
                              have A41 := Aside0.mk A410
                              clear A410
                              obtain rfl := Option.some.inj H
                              obtain ⟨Ao42, co42, eo42⟩ := Kd.R_slice HO_7.out
                              subst eo42
                              go_wp2_with (first | ((with_reducible refine gate_dst (N := 86) rfl ?_); (try (refine gate_guard (by rfl) ?_; dsimp only)); refine Kd.R_lit (Kd.int .i64) _ 3 ?hg (N := 86) ?hd (xs := ([] : List Int)) (inner := []) (ok := fun _ => True) (okp := fun _ => True) ?hr ?hp (fun _ hk => hk) trivial (Below.refl _ _) (Nat.le_refl _) (by simp) ?_; (case hd => rfl); (case hg => rfl); (case hr => first | (go_simp; done) | (go_simp; rfl)); (case hp => exact (Reps.none _ _)); intro v488 w43 ho44 hb hg_ hnew_; clear hg_ hnew_; (first | rw [← Ny487.out] at ho44 | (simp only [Int.reduceToNat] at ho44; rw [← Ny487.out] at ho44)); have n0_ := Aside0.mk (Kd.R_elder' (by (with_reducible repeat (first | apply Kd.R_alloc | apply Kd.R_drewN | apply Kd.R_drew)); exact HO_5.out) (Kd.R_base ho44) hb); have n1_ := Aside0.mk (Kd.R_elder' (by (with_reducible repeat (first | apply Kd.R_alloc | apply Kd.R_drewN | apply Kd.R_drew)); exact HO_7.out) (Kd.R_base ho44) hb); have n2_ := Aside0.mk (Kd.R_elder' (by (with_reducible repeat (first | apply Kd.R_alloc | apply Kd.R_drewN | apply Kd.R_drew)); exact HO_9.out) (Kd.R_base ho44) hb); have n3_ := Aside0.mk (Kd.R_lower (Kd.R_new' (Kd.R_new' (Kd.R_new' ho44 (Kd.R_lt (by (with_reducible repeat (first | apply Kd.R_alloc | apply Kd.R_drewN | apply Kd.R_drew)); exact HO_5.out))) (Kd.R_lt (by (with_reducible repeat (first | apply Kd.R_alloc | apply Kd.R_drewN | apply Kd.R_drew)); exact HO_7.out))) (Kd.R_lt (by (with_reducible repeat (first | apply Kd.R_alloc | apply Kd.R_drewN | apply Kd.R_drew)); exact HO_9.out))) (below_size (by repeat (first | (with_reducible first | exact HB.out | apply below_alloc | apply pw_below_drewN | apply below_drew1) | exact HB.out)))); have n4_ := Aside0.mk (below_step (by repeat (first | (with_reducible first | exact HB.out | apply below_alloc | apply pw_below_drewN | apply below_drew1) | exact HB.out)) hb); clear HO_5; clear HO_7; clear HO_9; clear HB; have HO_5 := n0_; have HO_7 := n1_; have HO_9 := n2_; have HO489 := n3_; have HB := n4_; clear n0_ n1_ n2_ n3_ n4_; clear hb ho44) | ((with_reducible refine gate_builtin (b := .append) (xs := #[.tmp 86, .tmp 87]) rfl ?_); (try (refine gate_guard (by rfl) ?_; dsimp only)); at_builtin; refine Kd.R_append_rows (Kd.int .i64) (w0 := w) w.heap.size rfl (.tmp 86) (.tmp 87) 22 3 (.int .i64 0) 8 rfl Try.underlying22 info3 rfl (by decide) (by omega) v488 y487 t476 _ _ _ (fun k_ => some k_ ≠ (.slice Ao11 t472.length co11 : Value).ownBlock ∧ some k_ ≠ (.slice Ao42 t476.length co42 : Value).ownBlock ∧ some k_ ≠ (v482 : Value).ownBlock) (fun _ => False) rfl rfl ?aO ?aR (fun _ _ h => h) (fun _ h => h.elim) ?aF ?aB ?aS ?aL ?_; (case aR => repeat (first | exact (Kd.R_reads' HO_7.out).2.2 | (with_reducible refine Kd.C_alloc ?_ _) | (with_reducible refine Kd.C_drewN ?_ _) | (with_reducible refine Kd.C_drew ?_))); (case aB => exact (by repeat (first | (with_reducible first | exact HB.out | apply below_alloc | apply pw_below_drewN | apply below_drew1) | exact HB.out))); (case aF => exact (fun k_ hk => ⟨Kd.fresh' (Kd.R_lt (by (with_reducible repeat (first | apply Kd.R_alloc | apply Kd.R_drewN | apply Kd.R_drew)); exact HO_5.out)) k_ hk, Kd.fresh' (Kd.R_lt (by (with_reducible repeat (first | apply Kd.R_alloc | apply Kd.R_drewN | apply Kd.R_drew)); exact HO_7.out)) k_ hk, Kd.fresh' (Kd.R_lt (by (with_reducible repeat (first | apply Kd.R_alloc | apply Kd.R_drewN | apply Kd.R_drew)); exact HO_9.out)) k_ hk⟩)); (case aO => exact (by (with_reducible repeat (first | apply Kd.R_alloc | apply Kd.R_drewN | apply Kd.R_drew)); exact Kd.R_mono HO489.out (fun _ hk => ⟨hk.1.1.2, ⟨hk.1.2, hk.2⟩⟩))); (case aS => exact (below_size (by repeat (first | (with_reducible first | exact HB.out | apply below_alloc | apply pw_below_drewN | apply below_drew1) | exact HB.out)))); (case aL => have := LMc31.out; omega); intro v491 w45 ho hb hg hat; rw [← Ny490.out] at ho; have n0_ := Aside0.mk (Kd.R_after (ok := (fun k_ => some k_ ≠ (.slice Ao42 t476.length co42 : Value).ownBlock ∧ some k_ ≠ (v482 : Value).ownBlock)) (by (with_reducible repeat (first | apply Kd.R_alloc | apply Kd.R_drewN | apply Kd.R_drew)); exact HO_5.out) hg hat); have n1_ := Aside0.mk (Kd.R_after (ok := (fun k_ => some k_ ≠ (.slice Ao11 t472.length co11 : Value).ownBlock ∧ some k_ ≠ (v482 : Value).ownBlock)) (by (with_reducible repeat (first | apply Kd.R_alloc | apply Kd.R_drewN | apply Kd.R_drew)); exact HO_7.out) hg hat); have n2_ := Aside0.mk (Kd.R_after (ok := (fun k_ => some k_ ≠ (.slice Ao11 t472.length co11 : Value).ownBlock ∧ some k_ ≠ (.slice Ao42 t476.length co42 : Value).ownBlock)) (by (with_reducible repeat (first | apply Kd.R_alloc | apply Kd.R_drewN | apply Kd.R_drew)); exact HO_9.out) hg hat); have n3_ := Aside0.mk (hb); have n4_ := Aside0.mk (ho); clear HO_5; clear HO_7; clear HO_9; clear HB; clear HO489; have HO_5 := n0_; have HO_7 := n1_; have HO_9 := n2_; have HB := n3_; have HO492 := n4_; clear n0_ n1_ n2_ n3_ n4_; clear ho hb hg hat; obtain ⟨Ao46, co46, eo46⟩ := Kd.R_slice HO492.out; subst eo46; have p493 : 0 ≤ ((ji32) : Int) := of_decide_eq_true (by first | (with_reducible assumption) | assumption); have q493 : (ji32) < (y490.length : Int) := of_decide_eq_true (by first | (with_reducible assumption) | assumption); obtain ⟨ad493, e493, hx493_0⟩ := Kd.at_int (Kd.R_reads' HO492.out).2.2 (ji32) p493 q493; cases e493; replace p493 := eq_true p493; replace q493 := eq_true q493; have p35 : 0 ≤ ((ji32) : Int) := of_decide_eq_true (by first | (with_reducible assumption) | assumption); have q35 : ((ji32) : Int) < ((y490.length : Int) : Int) := of_decide_eq_true (by first | (with_reducible assumption) | assumption); obtain ⟨go35, co35, eo35, gb35, gl35, cl35, HG35⟩ := Kd.R_form HO492.out (by omega); (first | cases eo35 | (injection eo35 with ea_ en_ ec_; (first | subst ea_ | (injection ea_ with ea_; subst ea_)); subst ec_; clear en_)); have GB35 := Aside0.mk gb35; have GG35 := Aside0.mk HG35; clear gb35 gl35 HG35; (first | simp only [add_plain] at hx493_0 | skip); obtain ⟨hx35_0, hf35_0⟩ := Kd.R_celln 0 HO492.out ((ji32) : Int) p35 q35; replace p35 := eq_true p35; replace q35 := eq_true q35; obtain ⟨hy47_, hz47_⟩ := Kd.R_celln 0 HO492.out ((ji32) : Int) (of_decide_eq_true (by first | (with_reducible assumption) | assumption)) (of_decide_eq_true (by first | (with_reducible assumption) | assumption)); have HP47 := Kd.R_putg HO492.out ((ji32) : Int) (wrap64 ((rd y490 (ji32)) - 1))) | ((with_reducible refine gate_store (t := 3) (p := 96) rfl ?_); refine store_event (t := 3) (p := 96) (v := ?vo_w48) (w1 := (w45.setCell ⟨go35, ((ji32) : Int).toNat, none⟩ (.int .i64 (wrap64 ((rd y490 (ji32)) - 1))))) ?hg ?ho ?hn ?hr ?_; (case ho => rfl); (case hg => rfl); (case hn => rfl); (case hr => first | (go_simp; done) | (go_simp; rfl)); intro w48 hw; have hg : w45.grownBy w48 (some go35) := (by rw [hw]; exact HP47.2); have hp_ : Kd.R (Kd.int .i64) 3 w48 w.heap.size (fun k_ => some k_ ≠ (.slice Ao11 t472.length co11 : Value).ownBlock ∧ some k_ ≠ (.slice Ao42 t476.length co42 : Value).ownBlock ∧ some k_ ≠ (v482 : Value).ownBlock) (.slice (some ⟨go35, 0, none⟩) y490.length co46) y494 := (by rw [hw, Ny494.out]; exact HP47.1); clear HP47; have n0_ := Aside0.mk (Kd.R_after (v := (.slice (some ⟨go35, 0, none⟩) y490.length co46)) (v1 := (.slice (some ⟨go35, 0, none⟩) y490.length co46)) (ok := (fun k_ => some k_ ≠ (.slice Ao42 t476.length co42 : Value).ownBlock ∧ some k_ ≠ (v482 : Value).ownBlock)) (by (with_reducible repeat (first | apply Kd.R_alloc | apply Kd.R_drewN | apply Kd.R_drew)); exact HO_5.out) hg (.inl rfl)); have n1_ := Aside0.mk (Kd.R_after (v := (.slice (some ⟨go35, 0, none⟩) y490.length co46)) (v1 := (.slice (some ⟨go35, 0, none⟩) y490.length co46)) (ok := (fun k_ => some k_ ≠ (.slice Ao11 t472.length co11 : Value).ownBlock ∧ some k_ ≠ (v482 : Value).ownBlock)) (by (with_reducible repeat (first | apply Kd.R_alloc | apply Kd.R_drewN | apply Kd.R_drew)); exact HO_7.out) hg (.inl rfl)); have n2_ := Aside0.mk (Kd.R_after (v := (.slice (some ⟨go35, 0, none⟩) y490.length co46)) (v1 := (.slice (some ⟨go35, 0, none⟩) y490.length co46)) (ok := (fun k_ => some k_ ≠ (.slice Ao11 t472.length co11 : Value).ownBlock ∧ some k_ ≠ (.slice Ao42 t476.length co42 : Value).ownBlock)) (by (with_reducible repeat (first | apply Kd.R_alloc | apply Kd.R_drewN | apply Kd.R_drew)); exact HO_9.out) hg (.inl rfl)); have n3_ := Aside0.mk (hp_); have n4_ := Aside0.mk ((by rw [hw]; exact below_set (HB.out) GB35.out : Below w.heap.size w w48)); clear HO_5; clear HO_7; clear HO_9; clear HO492; clear HB; have HO_5 := n0_; have HO_7 := n1_; have HO_9 := n2_; have HO492 := n3_; have HB := n4_; clear n0_ n1_ n2_ n3_ n4_; clear hg hw hp_; have p495 : 0 ≤ ((ji36) : Int) := of_decide_eq_true (by first | (with_reducible assumption) | assumption); have q495 : (ji36) < (y494.length : Int) := (by have h_ : ((ji36) : Int) < ((y490.length : Int) : Int) := of_decide_eq_true (by first | (with_reducible assumption) | assumption); first | (have e_ := (Kd.R_reads' HO492.out).1; omega) | simpa only [Ny494.out, List.length_set] using h_); have ql495 : (((ji36) : Int) < ((y490.length : Int) : Int)) = True := eq_true (of_decide_eq_true (by first | (with_reducible assumption) | assumption)); obtain ⟨ad495, e495, hx495_0⟩ := Kd.at_int (Kd.R_reads' HO492.out).2.2 (ji36) p495 q495; obtain rfl : (⟨go35, 0, none⟩ : Addr) = ad495 := (by injection e495); (first | simp only [add_plain] at hx495_0 | simp only [add_at] at hx495_0 | simp only [Addr.add, Nat.zero_add] at hx495_0 | skip); replace p495 := eq_true p495; replace q495 := eq_true q495; have p39 : 0 ≤ ((ji36) : Int) := of_decide_eq_true (by first | (with_reducible assumption) | assumption); have q39 : ((ji36) : Int) < ((y490.length : Int) : Int) := of_decide_eq_true (by first | (with_reducible assumption) | assumption); obtain ⟨hx39_0, hf39_0⟩ := Kd.R_celln 0 HO492.out ((ji36) : Int) p39 q39; replace p39 := eq_true p39; replace q39 := eq_true q39; obtain ⟨hy49_, hz49_⟩ := Kd.R_celln 0 HO492.out ((ji36) : Int) (of_decide_eq_true (by first | (with_reducible assumption) | assumption)) (of_decide_eq_true (by first | (with_reducible assumption) | assumption)); have HP49 := Kd.R_putg HO492.out ((ji36) : Int) (wrap64 ((rd y494 (ji36)) + 1))) | ((with_reducible refine gate_store (t := 3) (p := 104) rfl ?_); refine store_event (t := 3) (p := 104) (v := ?vo_w50) (w1 := (w48.setCell ⟨go35, ((ji36) : Int).toNat, none⟩ (.int .i64 (wrap64 ((rd y494 (ji36)) + 1))))) ?hg ?ho ?hn ?hr ?_; (case ho => rfl); (case hg => rfl); (case hn => rfl); (case hr => first | (go_simp; done) | (go_simp; rfl)); intro w50 hw; have hg : w48.grownBy w50 (some go35) := (by rw [hw]; exact HP49.2); have hp_ : Kd.R (Kd.int .i64) 3 w50 w.heap.size (fun k_ => some k_ ≠ (.slice Ao11 t472.length co11 : Value).ownBlock ∧ some k_ ≠ (.slice Ao42 t476.length co42 : Value).ownBlock ∧ some k_ ≠ (v482 : Value).ownBlock) (.slice (some ⟨go35, 0, none⟩) y490.length co46) y496 := (by rw [hw, Ny496.out]; exact HP49.1); clear HP49; have n0_ := Aside0.mk (Kd.R_after (v := (.slice (some ⟨go35, 0, none⟩) y490.length co46)) (v1 := (.slice (some ⟨go35, 0, none⟩) y490.length co46)) (ok := (fun k_ => some k_ ≠ (.slice Ao42 t476.length co42 : Value).ownBlock ∧ some k_ ≠ (v482 : Value).ownBlock)) (by (with_reducible repeat (first | apply Kd.R_alloc | apply Kd.R_drewN | apply Kd.R_drew)); exact HO_5.out) hg (.inl rfl)); have n1_ := Aside0.mk (Kd.R_after (v := (.slice (some ⟨go35, 0, none⟩) y490.length co46)) (v1 := (.slice (some ⟨go35, 0, none⟩) y490.length co46)) (ok := (fun k_ => some k_ ≠ (.slice Ao11 t472.length co11 : Value).ownBlock ∧ some k_ ≠ (v482 : Value).ownBlock)) (by (with_reducible repeat (first | apply Kd.R_alloc | apply Kd.R_drewN | apply Kd.R_drew)); exact HO_7.out) hg (.inl rfl)); have n2_ := Aside0.mk (Kd.R_after (v := (.slice (some ⟨go35, 0, none⟩) y490.length co46)) (v1 := (.slice (some ⟨go35, 0, none⟩) y490.length co46)) (ok := (fun k_ => some k_ ≠ (.slice Ao11 t472.length co11 : Value).ownBlock ∧ some k_ ≠ (.slice Ao42 t476.length co42 : Value).ownBlock)) (by (with_reducible repeat (first | apply Kd.R_alloc | apply Kd.R_drewN | apply Kd.R_drew)); exact HO_9.out) hg (.inl rfl)); have n3_ := Aside0.mk (hp_); have n4_ := Aside0.mk ((by rw [hw]; exact below_set (HB.out) GB35.out : Below w.heap.size w w50)); clear HO_5; clear HO_7; clear HO_9; clear HO492; clear HB; have HO_5 := n0_; have HO_7 := n1_; have HO_9 := n2_; have HO492 := n3_; have HB := n4_; clear n0_ n1_ n2_ n3_ n4_; clear hg hw hp_) | ((with_reducible refine gate_callee (f := 14) rfl ?_); refine goesL_ (some 108) rfl rfl Try.func14 (by kernel_rfl) rfl #[.slice Ao11 t472.length co11, .int .i64 t473, .slice (some ⟨go35, 0, none⟩) y496.length co46] rfl (by (try simp only [List.map_toArray, List.map_cons, List.map_nil]); first | done | (rw [show y496.length = y490.length from (Kd.R_reads' HO492.out).1.symm] <;> rfl) | rfl | (simp only [List.length_drop, List.length_take]; rfl)) ?_; (with_reducible refine (impl_ShareFar.calls kj8 _ _ t472 t473 _ _ y496 t497 _ ?side1 ?side2 ?side3 ?side4 A40.out).mono ?_); (case side1 => repeat (first | exact (Kd.R_reads' HO_5.out).2.2 | (with_reducible refine Kd.C_alloc ?_ _) | (with_reducible refine Kd.C_drewN ?_ _) | (with_reducible refine Kd.C_drew ?_))); (case side2 => exact (Kd.R_reads' HO_5.out).2.1); (case side3 => repeat (first | exact (Kd.R_reads' HO492.out).2.2 | (with_reducible refine Kd.C_alloc ?_ _) | (with_reducible refine Kd.C_drewN ?_ _) | (with_reducible refine Kd.C_drew ?_))); (case side4 => rw [show y496.length = y490.length from (Kd.R_reads' HO492.out).1.symm]; exact (Kd.R_reads' HO492.out).2.1); rintro e w' ⟨rfl, ⟨nd, rfl⟩⟩; refine ⟨_, rfl, ?_⟩) | ((with_reducible refine gate_callee (f := 14) rfl ?_); refine goesL_ (some 112) rfl rfl Try.func14 (by kernel_rfl) rfl #[.slice Ao11 t472.length co11, .int .i64 t473, .slice Ao42 t476.length co42] rfl (by (try simp only [List.map_toArray, List.map_cons, List.map_nil]); first | done | rfl | (simp only [List.length_drop, List.length_take]; rfl)) ?_; (with_reducible refine (impl_ShareFar.calls kj8 _ _ t472 t473 _ _ t476 t498 _ ?side1 ?side2 ?side3 ?side4 A41.out).mono ?_); (case side1 => repeat (first | exact (Kd.R_reads' HO_5.out).2.2 | (with_reducible refine Kd.C_alloc ?_ _) | (with_reducible refine Kd.C_drewN ?_ _) | (with_reducible refine Kd.C_drew ?_))); (case side2 => exact (Kd.R_reads' HO_5.out).2.1); (case side3 => repeat (first | exact (Kd.R_reads' HO_7.out).2.2 | (with_reducible refine Kd.C_alloc ?_ _) | (with_reducible refine Kd.C_drewN ?_ _) | (with_reducible refine Kd.C_drew ?_))); (case side4 => exact (Kd.R_reads' HO_7.out).2.1); rintro e w' ⟨rfl, ⟨nd, rfl⟩⟩; refine ⟨_, rfl, ?_⟩))
                              go_ret
                              exact ⟨by first | rfl | (simp [errW_none, errW_some] <;> rfl) | (simp only [← hji32, ← hji36]; first | rfl | (simp [errW_none, errW_some] <;> rfl)) | (simp [*, errW_none, errW_some] <;> rfl), by repeat (first | (with_reducible first | exact HB.out | apply below_alloc | apply pw_below_drewN | apply below_drew1) | exact HB.out)⟩
                            · rw [if_neg c38] at H
                              exact absurd H (by simp)
                          · rw [if_neg c37] at H
                            exact absurd H (by simp)
                        · rw [if_neg c34] at H
                          exact absurd H (by simp)
                      · rw [if_neg c33] at H
                        exact absurd H (by simp)
                    · rw [if_neg c31] at H
                      exact absurd H (by simp)

/-- THE ONE PURE STATEMENT of laws_FnShareBest: yours. -/
def laws_FnShareBest.Pure : Prop := ∀ (l0 : List Int) (l1 : List Int), l0.length ≤ maxLen → l0.length * 1 ≤ 140737488351232 → (∀ x ∈ l0, (Lit.int .u8 x).wf = true) → l1.length ≤ maxLen → l1.length * 1 ≤ 140737488351232 → (∀ x ∈ l1, (Lit.int .u8 x).wf = true) → ∃ k, laws_FnShareBest.f k l0 l1 = some true
theorem laws_FnShareBest.walk (P : laws_FnShareBest.Pure) (a0 : Option Addr) (len0 cap0 : Nat) (z0 : List Int) (a1 : Option Addr) (len1 cap1 : Nat) (z1 : List Int) (w : World) (w0 : (a0 = none ∧ len0 = 0 ∧ cap0 = 0 ∧ z0 = []) ∨ ∃ x, a0 = some x ∧ len0 ≤ cap0 ∧ cap0 ≤ maxLen ∧ z0.length = cap0 ∧ (∀ i, i < z0.length → w.cell? (x.add i) = some (.int .u8 (z0.getD i 0))) ∧ ∀ n ∈ z0, (Lit.int .u8 n).wf = true) (y0 : len0 * 1 ≤ 140737488351232) (w1 : (a1 = none ∧ len1 = 0 ∧ cap1 = 0 ∧ z1 = []) ∨ ∃ x, a1 = some x ∧ len1 ≤ cap1 ∧ cap1 ≤ maxLen ∧ z1.length = cap1 ∧ (∀ i, i < z1.length → w.cell? (x.add i) = some (.int .u8 (z1.getD i 0))) ∧ ∀ n ∈ z1, (Lit.int .u8 n).wf = true) (y1 : len1 * 1 ≤ 140737488351232) :
    Calls Try.prog 9 #[.slice a0 len0 cap0, .slice a1 len1 cap1] w fun e w' => e = .returned (.bool true) ∧ Below w.heap.size w w' := by
  obtain ⟨l0, rfl, hr0, hm0, hw0, hc0⟩ := ReadsInt.ofRowC w0
  obtain ⟨l1, rfl, hr1, hm1, hw1, hc1⟩ := ReadsInt.ofRowC w1
  obtain ⟨k, h⟩ := P l0 l1 hm0 y0 hw0 hm1 y1 hw1
  refine (laws_FnShareBest.calls k _ _ l0 _ _ l1 true w (Kd.C_of_reads (d := (0 : Int)) (h1 := fun _ => rfl) hr0) hc0 (Kd.C_of_reads (d := (0 : Int)) (h1 := fun _ => rfl) hr1) hc1 h rfl).mono ?_
  rintro e w' ⟨rfl, hd⟩
  exact ⟨rfl, hd⟩

end Go.Proofs.Ytfmjhckndlngaaa.Q
