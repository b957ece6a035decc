/- Part 7 of what the proof of this law rests on: the functions of the translation as plain Lean functions with their walks, and the plain laws behind. -/
import Derived.Below
import Derived.Test.YtgdhgncdpmalcaaMFnCommon6
namespace Go.Proofs.Ytgdhgncdpmalcaa.Q
open Go.RowKit Go.Proofs.YtgdhgncdpmalcaaW.PrintWords Go.Proofs.YtgdhgncdpmalcaaW.PrintLast Go.Proofs.YtgdhgncdpmalcaaW.PrintMore
attribute [local go_sem] max2_int min2_int max_two min_two max_three min_three max_four min_four   -- for this text's walks alone
set_option linter.unusedVariables false
set_option linter.unusedSimpArgs false

/-! ### laws_FnCommon: function 8 -/
def laws_FnCommon.j0 : Nat → List (S32) → List (S32) → Int → Int → Bool → Option (Bool)
  | 0, _, _, _, _, _ => none
  | k + 1, x3, x4, x5, x6, x27 => if x27 = true then (some (x5 == x6)) else ((impl_ParcelCommon.f x4 x3).bind fun t638 => (if t638 = x5 then (if x5 ≤ (x3.length : Int) then (if x5 ≤ (x4.length : Int) then ((impl_ParcelCommon.f x3 x3).bind fun t639 => (some (t639 == 0))) else (some false)) else (some false)) else (some false)))
def laws_FnCommon.f (k : Nat) (l0 : List Int) : Option (Bool) := if (l0.length : Int) > 1048576 then (some true) else ((spec_DrawParcelCommon.f k l0).bind fun bt630 => ((impl_ParcelCommon.f bt630.1 bt630.2).bind fun t636 => ((spec_ParcelCommon.f k bt630.1 bt630.2).bind fun t637 => (if t636 = t637 then (laws_FnCommon.j0 k bt630.1 bt630.2 t636 t637 (decide (t636 < 0))) else (laws_FnCommon.j0 k bt630.1 bt630.2 t636 t637 true)))))
set_option maxHeartbeats 8000000 in
set_option maxRecDepth 100000 in
theorem laws_FnCommon.calls (k : Nat) (A0 : Option Addr) (c0 : Nat) (l0 : List Int) (r : Bool) (w : World) (hr0 : Kd.C (Kd.int .u8) w A0 l0.length l0) (hc0 : l0.length ≤ c0) (h : laws_FnCommon.f k l0 = some r) (hT0 : r = true) :
    Calls Try.prog 8 #[.slice A0 l0.length c0] w fun e w' => e = .returned (.bool r) ∧ Below w.heap.size w w' := by
  have hT := Aside0.mk hT0
  clear hT0
  have HR0 := Aside0.mk hr0
  have HC0 := Aside0.mk hc0
  clear hr0 hc0
  have HB := Aside0.mk (Below.refl w.heap.size w)
  have H : (if (l0.length : Int) > 1048576 then (some true) else ((spec_DrawParcelCommon.f k l0).bind fun bt630 => ((impl_ParcelCommon.f bt630.1 bt630.2).bind fun t636 => ((spec_ParcelCommon.f k bt630.1 bt630.2).bind fun t637 => (if t636 = t637 then (laws_FnCommon.j0 k bt630.1 bt630.2 t636 t637 (decide (t636 < 0))) else (laws_FnCommon.j0 k bt630.1 bt630.2 t636 t637 true)))))) = some r := h
  clear h
  by_cases c2 : (l0.length : Int) > 1048576
  · rw [if_pos c2] at H
    have c2b0 : decide (1048576 < (l0.length : Int)) = true := decide_eq_true c2
    have c2b1 : decide (1048576 < l0.length) = true := decide_eq_true (by omega)
    clear c2
    obtain rfl := Option.some.inj H
    go_enter Try.func8, Try.ntmps8
    go_wp2
    go_ret
    exact ⟨by first | rfl | (simp [errW_none, errW_some] <;> rfl) | (simp [*, errW_none, errW_some] <;> rfl), by repeat (first | (with_reducible first | exact HB.out | apply below_alloc | apply pw_below_drewN | apply below_drew1) | exact HB.out)⟩
  · rw [if_neg c2] at H
    have c2b0 : decide (1048576 < (l0.length : Int)) = false := decide_eq_false c2
    have c2b1 : decide (1048576 < l0.length) = false := decide_eq_false (by omega)
    clear c2
    replace H := Option.bind_eq_some_iff.mp H
    obtain ⟨⟨t630, t631⟩, A30, H⟩ := H
    replace H : ((impl_ParcelCommon.f t630 t631).bind fun t636 => ((spec_ParcelCommon.f k t630 t631).bind fun t637 => (if t636 = t637 then (laws_FnCommon.j0 k t630 t631 t636 t637 (decide (t636 < 0))) else (laws_FnCommon.j0 k t630 t631 t636 t637 true)))) = some r := H
    have A3 := Aside0.mk A30
    clear A30
    replace H := Option.bind_eq_some_iff.mp H
    obtain ⟨t636, A40, H⟩ := H
    replace H : ((spec_ParcelCommon.f k t630 t631).bind fun t637 => (if t636 = t637 then (laws_FnCommon.j0 k t630 t631 t636 t637 (decide (t636 < 0))) else (laws_FnCommon.j0 k t630 t631 t636 t637 true))) = some r := H
    have A4 := Aside0.mk A40
    clear A40
    replace H := Option.bind_eq_some_iff.mp H
    obtain ⟨t637, A50, H⟩ := H
    replace H : (if t636 = t637 then (laws_FnCommon.j0 k t630 t631 t636 t637 (decide (t636 < 0))) else (laws_FnCommon.j0 k t630 t631 t636 t637 true)) = some r := H
    have A5 := Aside0.mk A50
    clear A50
    have HC6 := Aside0.mk H
    clear H
    go_enter Try.func8, Try.ntmps8
    go_upto_region 6 with (first | ((with_reducible refine gate_callee (f := 30) rfl ?_); refine goesL_ (some 12) rfl rfl Try.func30 (by kernel_rfl) rfl #[.slice A0 l0.length c0] rfl (by (try simp only [List.map_toArray, List.map_cons, List.map_nil]); first | done | rfl | (simp only [List.length_drop, List.length_take]; rfl)) ?_; (with_reducible refine (spec_DrawParcelCommon.calls k _ _ l0 t630 t631 _ ?side1 ?side2 A3.out).mono ?_); (case side1 => repeat (first | exact HR0.out | (with_reducible refine Kd.C_alloc ?_ _) | (with_reducible refine Kd.C_drewN ?_ _) | (with_reducible refine Kd.C_drew ?_))); (case side2 => exact HC0.out); rintro e w7 ⟨v632, v634, rfl, ho0, ho1, hb⟩; refine ⟨_, rfl, ?_⟩; have n0_ := Aside0.mk (Kd.Q_lower ho0 (below_size (by repeat (first | (with_reducible first | exact HB.out | apply below_alloc | apply pw_below_drewN | apply below_drew1) | exact HB.out)))); have n1_ := Aside0.mk (Kd.Q_lower ho1 (below_size (by repeat (first | (with_reducible first | exact HB.out | apply below_alloc | apply pw_below_drewN | apply below_drew1) | exact HB.out)))); have n2_ := Aside0.mk (below_step (by repeat (first | (with_reducible first | exact HB.out | apply below_alloc | apply pw_below_drewN | apply below_drew1) | exact HB.out)) hb); clear HB; have HO633 := n0_; have HO635 := n1_; have HB := n2_; clear n0_ n1_ n2_; (try clear hb); (try clear hb2); (try clear hk); (try clear hi); (try clear ho0); (try clear ho1); obtain ⟨Ao8, co8, eo8, _⟩ := Kd.Q_slice HO633.out; subst eo8; obtain ⟨Ao9, co9, eo9, _⟩ := Kd.Q_slice HO635.out; subst eo9) | ((with_reducible refine gate_callee (f := 31) rfl ?_); refine goesL_ (some 17) rfl rfl Try.func31 (by kernel_rfl) rfl #[.slice Ao8 t630.length co8, .slice Ao9 t631.length co9] rfl (by (try simp only [List.map_toArray, List.map_cons, List.map_nil]); first | done | rfl | (simp only [List.length_drop, List.length_take]; rfl)) ?_; (with_reducible refine (impl_ParcelCommon.calls _ _ t630 _ _ t631 t636 _ ?side1 ?side2 ?side3 ?side4 A4.out).mono ?_); (case side1 => repeat (first | exact (Kd.Q_reads' HO633.out).2.2 | (with_reducible refine Kd.C_alloc ?_ _) | (with_reducible refine Kd.C_drewN ?_ _) | (with_reducible refine Kd.C_drew ?_))); (case side2 => exact (Kd.Q_reads' HO633.out).2.1); (case side3 => repeat (first | exact (Kd.Q_reads' HO635.out).2.2 | (with_reducible refine Kd.C_alloc ?_ _) | (with_reducible refine Kd.C_drewN ?_ _) | (with_reducible refine Kd.C_drew ?_))); (case side4 => exact (Kd.Q_reads' HO635.out).2.1); rintro e w10 ⟨rfl, hb⟩; refine ⟨_, rfl, ?_⟩; have n0_ := Aside0.mk (Kd.Q_below (by (with_reducible repeat (first | apply Kd.Q_alloc | apply Kd.Q_drewN | apply Kd.Q_drew)); exact HO633.out) hb); have n1_ := Aside0.mk (Kd.Q_below (by (with_reducible repeat (first | apply Kd.Q_alloc | apply Kd.Q_drewN | apply Kd.Q_drew)); exact HO635.out) hb); have n2_ := Aside0.mk (below_step (by repeat (first | (with_reducible first | exact HB.out | apply below_alloc | apply pw_below_drewN | apply below_drew1) | exact HB.out)) hb); clear HO633; clear HO635; clear HB; have HO633 := n0_; have HO635 := n1_; have HB := n2_; clear n0_ n1_ n2_; (try clear hb); (try clear hb2); (try clear hk); (try clear hi)) | ((with_reducible refine gate_callee (f := 32) rfl ?_); refine goesL_ (some 20) rfl rfl Try.func32 (by kernel_rfl) rfl #[.slice Ao8 t630.length co8, .slice Ao9 t631.length co9] rfl (by (try simp only [List.map_toArray, List.map_cons, List.map_nil]); first | done | rfl | (simp only [List.length_drop, List.length_take]; rfl)) ?_; (with_reducible refine (spec_ParcelCommon.calls k _ _ t630 _ _ t631 t637 _ ?side1 ?side2 ?side3 ?side4 A5.out).mono ?_); (case side1 => repeat (first | exact (Kd.Q_reads' HO633.out).2.2 | (with_reducible refine Kd.C_alloc ?_ _) | (with_reducible refine Kd.C_drewN ?_ _) | (with_reducible refine Kd.C_drew ?_))); (case side2 => exact (Kd.Q_reads' HO633.out).2.1); (case side3 => repeat (first | exact (Kd.Q_reads' HO635.out).2.2 | (with_reducible refine Kd.C_alloc ?_ _) | (with_reducible refine Kd.C_drewN ?_ _) | (with_reducible refine Kd.C_drew ?_))); (case side4 => exact (Kd.Q_reads' HO635.out).2.1); rintro e w11 ⟨rfl, hb⟩; refine ⟨_, rfl, ?_⟩; have n0_ := Aside0.mk (Kd.Q_below (by (with_reducible repeat (first | apply Kd.Q_alloc | apply Kd.Q_drewN | apply Kd.Q_drew)); exact HO633.out) hb); have n1_ := Aside0.mk (Kd.Q_below (by (with_reducible repeat (first | apply Kd.Q_alloc | apply Kd.Q_drewN | apply Kd.Q_drew)); exact HO635.out) hb); have n2_ := Aside0.mk (below_step (by repeat (first | (with_reducible first | exact HB.out | apply below_alloc | apply pw_below_drewN | apply below_drew1) | exact HB.out)) hb); clear HO633; clear HO635; clear HB; have HO633 := n0_; have HO635 := n1_; have HB := n2_; clear n0_ n1_ n2_; (try clear hb); (try clear hb2); (try clear hk); (try clear hi)))
    (try simp only [Act.put, List.setIfInBounds_toArray, List.set_cons_zero, List.set_cons_succ])
    go_cut [27] (fun v27 wc => ∃ (kq : Nat) (x27_5 : Bool), v27 = .bool x27_5 ∧ Aside0 (laws_FnCommon.j0 kq t630 t631 t636 t637 x27_5 = some r) ∧ Aside0 (kq ≤ k) ∧ Aside0 (Kd.Q k32 32 wc w.heap.size (fun k_ => some k_ ≠ ((.slice Ao9 t631.length co9) : Value).ownBlock) (.slice Ao8 t630.length co8) t630) ∧ Aside0 (Kd.Q k32 32 wc w.heap.size (fun k_ => some k_ ≠ ((.slice Ao8 t630.length co8) : Value).ownBlock) (.slice Ao9 t631.length co9) t631) ∧ Aside0 (Below w.heap.size w wc))
    case first =>
      have H := HC6.out
      clear HC6
      by_cases c12 : t636 = t637
      · rw [if_pos c12] at H
        have c12b0 : (t636 == t637) = true := beq_iff_eq.mpr c12
        have c12b1 : (t636 != t637) = false := bne_eq_false_iff_eq.mpr c12
        clear c12
        (first | rw [c12b0] | (simp only [i64_w, i32_w]; rw [c12b0]) | skip)
        have H' := Aside0.mk H
        clear H
        go_wp2
        go_meet
        case rel => exact ⟨_, (decide (t636 < 0)), (by first | rfl | (simp; done) | (simp [*]; done)), H', ⟨by first | omega | exact Nat.le_refl _⟩, ⟨by (with_reducible repeat (first | apply Kd.Q_alloc | apply Kd.Q_drewN | apply Kd.Q_drew)); exact HO633.out⟩, ⟨by (with_reducible repeat (first | apply Kd.Q_alloc | apply Kd.Q_drewN | apply Kd.Q_drew)); exact HO635.out⟩, ⟨by repeat (first | (with_reducible first | exact HB.out | apply below_alloc | apply pw_below_drewN | apply below_drew1) | exact HB.out)⟩⟩
      · rw [if_neg c12] at H
        have c12b0 : (t636 == t637) = false := beq_eq_false_iff_ne.mpr c12
        have c12b1 : (t636 != t637) = true := bne_iff_ne.mpr c12
        (first | rw [c12b0] | (simp only [i64_w, i32_w]; rw [c12b0]) | skip)
        have H' := Aside0.mk H
        clear H
        go_wp2
        go_meet
        case rel => exact ⟨_, (true), (by first | rfl | (simp; done) | (simp [*]; done)), H', ⟨by first | omega | exact Nat.le_refl _⟩, ⟨by (with_reducible repeat (first | apply Kd.Q_alloc | apply Kd.Q_drewN | apply Kd.Q_drew)); exact HO633.out⟩, ⟨by (with_reducible repeat (first | apply Kd.Q_alloc | apply Kd.Q_drewN | apply Kd.Q_drew)); exact HO635.out⟩, ⟨by repeat (first | (with_reducible first | exact HB.out | apply below_alloc | apply pw_below_drewN | apply below_drew1) | exact HB.out)⟩⟩
    case rest =>
      clear HC6
      try clear c1
      try clear c2
      try clear c2b0
      try clear c2b1
      try clear p2
      try clear c3
      try clear c8
      try clear c12
      try clear c12b0
      try clear c12b1
      obtain ⟨kq, x27_5, rfl, HA, HJ5, HO_3, HO_4, HB⟩ := hcut
      cases kq with
      | zero => exact absurd HA.out (by simp [laws_FnCommon.j0])
      | succ kj5 =>
        have H := HA.out
        clear HA
        simp only [laws_FnCommon.j0] at H
        by_cases c13 : x27_5 = true
        · subst c13
          have H1 : (some (t636 == t637)) = some r := by rw [if_pos rfl] at H; exact H
          clear H
          have H := H1
          clear H1
          obtain rfl := Option.some.inj H
          go_wp2
          go_ret
          exact ⟨by first | rfl | (simp [errW_none, errW_some] <;> rfl) | (simp [*, errW_none, errW_some] <;> rfl), by repeat (first | (with_reducible first | exact HB.out | apply below_alloc | apply pw_below_drewN | apply below_drew1) | exact HB.out)⟩
        · replace c13 := Bool.eq_false_iff.mpr c13
          subst c13
          have H1 : ((impl_ParcelCommon.f t631 t630).bind fun t638 => (if t638 = t636 then (if t636 ≤ (t630.length : Int) then (if t636 ≤ (t631.length : Int) then ((impl_ParcelCommon.f t630 t630).bind fun t639 => (some (t639 == 0))) else (some false)) else (some false)) else (some false))) = some r := by rw [if_neg (show ¬ (false = true) by decide)] at H; exact H
          clear H
          have H := H1
          clear H1
          replace H := Option.bind_eq_some_iff.mp H
          obtain ⟨t638, A140, H⟩ := H
          replace H : (if t638 = t636 then (if t636 ≤ (t630.length : Int) then (if t636 ≤ (t631.length : Int) then ((impl_ParcelCommon.f t630 t630).bind fun t639 => (some (t639 == 0))) else (some false)) else (some false)) else (some false)) = some r := H
          have A14 := Aside0.mk A140
          clear A140
          by_cases c15 : t638 = t636
          · rw [if_pos c15] at H
            have c15b0 : (t638 == t636) = true := beq_iff_eq.mpr c15
            have c15b1 : (t638 != t636) = false := bne_eq_false_iff_eq.mpr c15
            clear c15
            by_cases c16 : t636 ≤ (t630.length : Int)
            · rw [if_pos c16] at H
              have c16b0 : decide (t636 ≤ (t630.length : Int)) = true := decide_eq_true c16
              clear c16
              by_cases c17 : t636 ≤ (t631.length : Int)
              · rw [if_pos c17] at H
                have c17b0 : decide (t636 ≤ (t631.length : Int)) = true := decide_eq_true c17
                clear c17
                replace H := Option.bind_eq_some_iff.mp H
                obtain ⟨t639, A180, H⟩ := H
                replace H : (some (t639 == 0)) = some r := H
                have A18 := Aside0.mk A180
                clear A180
                obtain rfl := Option.some.inj H
                go_wp2_with (first | ((with_reducible refine gate_callee (f := 31) rfl ?_); refine goesL_ (some 33) rfl rfl Try.func31 (by kernel_rfl) rfl #[.slice Ao9 t631.length co9, .slice Ao8 t630.length co8] rfl (by (try simp only [List.map_toArray, List.map_cons, List.map_nil]); first | done | rfl | (simp only [List.length_drop, List.length_take]; rfl)) ?_; (with_reducible refine (impl_ParcelCommon.calls _ _ t631 _ _ t630 t638 _ ?side1 ?side2 ?side3 ?side4 A14.out).mono ?_); (case side1 => repeat (first | exact (Kd.Q_reads' HO_4.out).2.2 | (with_reducible refine Kd.C_alloc ?_ _) | (with_reducible refine Kd.C_drewN ?_ _) | (with_reducible refine Kd.C_drew ?_))); (case side2 => exact (Kd.Q_reads' HO_4.out).2.1); (case side3 => repeat (first | exact (Kd.Q_reads' HO_3.out).2.2 | (with_reducible refine Kd.C_alloc ?_ _) | (with_reducible refine Kd.C_drewN ?_ _) | (with_reducible refine Kd.C_drew ?_))); (case side4 => exact (Kd.Q_reads' HO_3.out).2.1); rintro e w19 ⟨rfl, hb⟩; refine ⟨_, rfl, ?_⟩; have n0_ := Aside0.mk (Kd.Q_below (by (with_reducible repeat (first | apply Kd.Q_alloc | apply Kd.Q_drewN | apply Kd.Q_drew)); exact HO_3.out) hb); have n1_ := Aside0.mk (Kd.Q_below (by (with_reducible repeat (first | apply Kd.Q_alloc | apply Kd.Q_drewN | apply Kd.Q_drew)); exact HO_4.out) hb); have n2_ := Aside0.mk (below_step (by repeat (first | (with_reducible first | exact HB.out | apply below_alloc | apply pw_below_drewN | apply below_drew1) | exact HB.out)) hb); clear HO_3; clear HO_4; clear HB; have HO_3 := n0_; have HO_4 := n1_; have HB := n2_; clear n0_ n1_ n2_; (try clear hb); (try clear hb2); (try clear hk); (try clear hi)) | (go_at_call 31; (with_reducible refine (impl_ParcelCommon.calls _ _ t630 _ _ t630 t639 _ ?side1 ?side2 ?side3 ?side4 A18.out).mono ?_); (case side1 => repeat (first | exact (Kd.Q_reads' HO_3.out).2.2 | (with_reducible refine Kd.C_alloc ?_ _) | (with_reducible refine Kd.C_drewN ?_ _) | (with_reducible refine Kd.C_drew ?_))); (case side2 => exact (Kd.Q_reads' HO_3.out).2.1); (case side3 => repeat (first | exact (Kd.Q_reads' HO_3.out).2.2 | (with_reducible refine Kd.C_alloc ?_ _) | (with_reducible refine Kd.C_drewN ?_ _) | (with_reducible refine Kd.C_drew ?_))); (case side4 => exact (Kd.Q_reads' HO_3.out).2.1); rintro e w20 ⟨rfl, hb⟩; have n0_ := Aside0.mk (Kd.Q_below (by (with_reducible repeat (first | apply Kd.Q_alloc | apply Kd.Q_drewN | apply Kd.Q_drew)); exact HO_3.out) hb); have n1_ := Aside0.mk (Kd.Q_below (by (with_reducible repeat (first | apply Kd.Q_alloc | apply Kd.Q_drewN | apply Kd.Q_drew)); exact HO_4.out) hb); have n2_ := Aside0.mk (below_step (by repeat (first | (with_reducible first | exact HB.out | apply below_alloc | apply pw_below_drewN | apply below_drew1) | exact HB.out)) hb); clear HO_3; clear HO_4; clear HB; have HO_3 := n0_; have HO_4 := n1_; have HB := n2_; clear n0_ n1_ n2_; (try clear hb); (try clear hb2); (try clear hk); (try clear hi)))
                go_ret
                exact ⟨by first | rfl | (simp [errW_none, errW_some] <;> rfl) | (simp [*, errW_none, errW_some] <;> rfl), by repeat (first | (with_reducible first | exact HB.out | apply below_alloc | apply pw_below_drewN | apply below_drew1) | exact HB.out)⟩
              · rw [if_neg c17] at H
                have c17b0 : decide (t636 ≤ (t631.length : Int)) = false := decide_eq_false c17
                clear c17
                exact absurd ((Option.some.inj H).trans hT.out) (by decide)
            · rw [if_neg c16] at H
              have c16b0 : decide (t636 ≤ (t630.length : Int)) = false := decide_eq_false c16
              clear c16
              exact absurd ((Option.some.inj H).trans hT.out) (by decide)
          · rw [if_neg c15] at H
            have c15b0 : (t638 == t636) = false := beq_eq_false_iff_ne.mpr c15
            have c15b1 : (t638 != t636) = true := bne_iff_ne.mpr c15
            exact absurd ((Option.some.inj H).trans hT.out) (by decide)

/-- THE ONE PURE STATEMENT of laws_FnCommon: yours. -/
def laws_FnCommon.Pure : Prop := ∀ (l0 : List Int), l0.length ≤ maxLen → l0.length * 1 ≤ 140737488351232 → (∀ x ∈ l0, (Lit.int .u8 x).wf = true) → ∃ k, laws_FnCommon.f k l0 = some true
theorem laws_FnCommon.walk (P : laws_FnCommon.Pure) (a0 : Option Addr) (len0 cap0 : Nat) (z0 : List Int) (w : World) (w0 : (a0 = none ∧ len0 = 0 ∧ cap0 = 0 ∧ z0 = []) ∨ ∃ x, a0 = some x ∧ len0 ≤ cap0 ∧ cap0 ≤ maxLen ∧ z0.length = cap0 ∧ (∀ i, i < z0.length → w.cell? (x.add i) = some (.int .u8 (z0.getD i 0))) ∧ ∀ n ∈ z0, (Lit.int .u8 n).wf = true) (y0 : len0 * 1 ≤ 140737488351232) :
    Calls Try.prog 8 #[.slice a0 len0 cap0] w fun e w' => e = .returned (.bool true) ∧ Below w.heap.size w w' := by
  obtain ⟨l0, rfl, hr0, hm0, hw0, hc0⟩ := ReadsInt.ofRowC w0
  obtain ⟨k, h⟩ := P l0 hm0 y0 hw0
  refine (laws_FnCommon.calls k _ _ l0 true w (Kd.C_of_reads (d := (0 : Int)) (h1 := fun _ => rfl) hr0) hc0 h rfl).mono ?_
  rintro e w' ⟨rfl, hd⟩
  exact ⟨rfl, hd⟩

end Go.Proofs.Ytgdhgncdpmalcaa.Q
namespace Go.Proofs.Ytgdhgncdpmalcaa.Pure
open Go.RowKit Go.Proofs.Ytgdhgncdpmalcaa.Q Go.Proofs.Ytgdhgncdpmalcaa.Ring Go.Proofs.YtgdhgncdpmalcaaW.PrintWords Go.Proofs.YtgdhgncdpmalcaaW.PrintLast
theorem pwA {x : Int} (h0 : 0 ≤ x) (h1 : x ≤ 4611686018427387904) : wrap64 x = x := by unfold wrap64; omega
theorem Area_l0 {l : List Pt} (hl : l.length ≤ 1048576) (n : Nat) : ∀ (j k : Nat), j + n = l.length → n < k → spec_l31Area.l0 k l (areaS l j) (j : Int) = some (areaS l l.length) := by
  induction n with
  | zero =>
    intro j k hj hk
    obtain ⟨k, rfl⟩ : ∃ m, k = m + 1 := ⟨k - 1, by omega⟩
    rw [spec_l31Area.l0, if_neg (by omega), show j = l.length by omega]
  | succ n ih =>
    intro j k hj hk
    obtain ⟨k, rfl⟩ : ∃ m, k = m + 1 := ⟨k - 1, by omega⟩
    have hw : wrap64 ((j : Int) + 1) = ((j + 1 : Nat) : Int) := by rw [pwA (by omega) (by omega)]; omega
    have hmod : Int.tmod ((j + 1 : Nat) : Int) (l.length : Int) = (((j + 1) % l.length : Nat) : Int) := by
      rw [Int.tmod_eq_emod_of_nonneg (by omega)]; simp
    have hlt : (j + 1) % l.length < l.length := Nat.mod_lt _ (by omega)
    rw [spec_l31Area.l0, if_pos (by omega), if_pos (by omega), if_neg (by omega), hw, hmod, if_pos (by omega), if_pos (by omega)]
    simp only [at_rd, spec_l2Cross.f, Option.bind_some]
    have := ih (j + 1) k (by omega) (by omega)
    rw [areaS] at this
    unfold crossP nxt at this
    rw [Int.mul_comm (at_ l ((j + 1) % l.length)).f0] at this
    exact this
end Go.Proofs.Ytgdhgncdpmalcaa.Pure
namespace Go.Proofs.Ytgdhgncdpmalcaa.Pure
open Go.RowKit Go.Proofs.Ytgdhgncdpmalcaa.Q Go.Proofs.Ytgdhgncdpmalcaa.Ring Go.Proofs.YtgdhgncdpmalcaaW.PrintWords Go.Proofs.YtgdhgncdpmalcaaW.PrintLast
theorem okP_cv {l : List Pt} (c : okP l = true) : cvB l = true := by
  unfold okP at c
  have := ((Bool.and_eq_true _ _).mp c).1
  unfold okS at this
  exact ((Bool.and_eq_true _ _).mp this).1
theorem specPValid_eq {l : List Pt} (h : l.length ≤ 1048576) (k : Nat) (hk : l.length < k) : spec_ParcelValid.f k l = some (okP l) := by
  unfold spec_ParcelValid.f
  rw [show spec_PolyValid.f l = some (okS l) from if_pos h]
  simp only [Option.bind_some]
  unfold okP
  by_cases c : okS l = true
  · rw [if_pos c, spec_l31Area.f, show spec_l31Area.l0 k l 0 0 = some (areaS l l.length) from Area_l0 h l.length 0 k (by omega) hk, c]
    rfl
  · rw [if_neg c, Bool.eq_false_iff.2 c]; rfl
end Go.Proofs.Ytgdhgncdpmalcaa.Pure
namespace Go.Proofs.Ytgdhgncdpmalcaa.Pure
open Go.RowKit Go.Proofs.Ytgdhgncdpmalcaa.Q Go.Proofs.Ytgdhgncdpmalcaa.Ring Go.Proofs.YtgdhgncdpmalcaaW.PrintWords Go.Proofs.YtgdhgncdpmalcaaW.PrintLast
theorem pwQ {x : Int} (h0 : 0 ≤ x) (h1 : x ≤ 4611686018427387904) : wrap64 x = x := by unfold wrap64; omega
theorem same_iff {p q : Pt} : sameP p q = true ↔ p = q := by
  obtain ⟨a, b⟩ := p
  obtain ⟨c, d⟩ := q
  simp [sameP]
theorem same_sym (p q : Pt) : sameP p q = sameP q p := by
  cases h : sameP p q <;> cases h' : sameP q p <;> first | rfl | skip
  · rw [same_iff.2 (same_iff.1 h').symm] at h; cases h
  · rw [same_iff.2 (same_iff.1 h).symm] at h'; cases h'
theorem at_inj {l : List Pt} (h : simpleB l = true) {i j : Nat} (hi : i < l.length) (hj : j < l.length) (e : at_ l i = at_ l j) : i = j := by
  have H := (simple_iff.1 h).1
  have key : ∀ i j, i < l.length → j < l.length → i < j → at_ l i = at_ l j → False := by
    intro i j hi hj hij e
    have := H i hi (j - i - 1) (by omega)
    unfold dupAt at this
    rw [show i + 1 + (j - i - 1) = j by omega, Nat.mod_eq_of_lt hj, same_iff.2 e.symm] at this
    cases this
  rcases Nat.lt_trichotomy i j with q | q | q
  · exact (key i j hi hj q e).elim
  · exact q
  · exact (key j i hj hi q e.symm).elim
theorem okP_simple {l : List Pt} (h : okP l = true) : simpleB l = true := by
  unfold okP okS at h
  simp only [Bool.and_eq_true] at h
  exact h.1.2
/-- Of the first sides of m so many lead from q to p. -/
def cI (m : List Pt) (p q : Pt) : Nat → Int
  | 0 => 0
  | t + 1 => if hasAt m p q t then cI m p q t + 1 else cI m p q t
theorem cI_none {m : List Pt} {p q : Pt} {n : Nat} (h : ∀ t, t < n → hasAt m p q t = false) : cI m p q n = 0 := by
  induction n with
  | zero => rfl
  | succ n ih => rw [cI, h n (by omega), if_neg (by decide), ih (fun t ht => h t (by omega))]
theorem cI_bd (m : List Pt) (p q : Pt) (n : Nat) : 0 ≤ cI m p q n ∧ cI m p q n ≤ n := by
  induction n with
  | zero => simp [cI]
  | succ n ih => rw [cI]; split <;> omega
theorem cI_one {m : List Pt} {p q : Pt} {j : Nat} (hs : simpleB m = true) (hj : j < m.length) (h : hasAt m p q j = true) : ∀ n, n ≤ m.length → cI m p q n = if j < n then 1 else 0 := by
  intro n
  induction n with
  | zero => intro _; simp [cI]
  | succ n ih =>
    intro hn
    rw [cI, ih (by omega)]
    by_cases e : n = j
    · subst e; rw [h, if_pos rfl, if_neg (by omega), if_pos (by omega)]; rfl
    · have hf : hasAt m p q n = false := by
        cases c : hasAt m p q n
        · rfl
        · unfold hasAt at c h
          rw [Bool.and_eq_true] at c h
          exact (e (at_inj hs (by omega) hj ((same_iff.1 c.1).trans (same_iff.1 h.1).symm))).elim
      rw [hf, if_neg (by decide)]
      by_cases q : j < n
      · rw [if_pos q, if_pos (by omega)]
      · rw [if_neg q, if_neg (by omega)]
theorem cI_all {m : List Pt} (hs : simpleB m = true) (p q : Pt) : cI m p q m.length = if hasS m p q then 1 else 0 := by
  cases c : hasS m p q
  · rw [if_neg (by decide)]
    refine cI_none (fun t ht => ?_)
    cases d : hasAt m p q t
    · rfl
    · rw [hasS_yes ht d] at c; cases c
  · rw [if_pos rfl]
    unfold hasS at c
    obtain ⟨k, hk, hh⟩ := List.any_eq_true.1 c
    rw [cI_one hs (List.mem_range.1 hk) hh m.length (Nat.le_refl _), if_pos (List.mem_range.1 hk)]
theorem idxQ {j n : Nat} (hj : j < n) (hn : n ≤ 1048576) : Int.tmod (wrap64 ((j : Int) + 1)) (n : Int) = (((j + 1) % n : Nat) : Int) := by
  rw [pwQ (by omega) (by omega), show (j : Int) + 1 = ((j + 1 : Nat) : Int) by omega, Int.tmod_eq_emod_of_nonneg (by omega)]
  simp
theorem Common_l1 {l m : List Pt} (hl : l.length ≤ 12) (hm : m.length ≤ 12) {i : Nat} (hi : i < l.length) (c : Int) (hc : 0 ≤ c ∧ c ≤ 1000) (k : Nat) (n : Nat) :
    ∀ t, t + n = m.length → spec_ParcelCommon.l1 (k + n + 1) l m (c + cI m (nxt l i) (at_ l i) t) (i : Int) (t : Int) = spec_ParcelCommon.l0 k l m (c + cI m (nxt l i) (at_ l i) m.length) ((i + 1 : Nat) : Int) := by
  induction n with
  | zero =>
    intro t ht
    rw [spec_ParcelCommon.l1, if_neg (by omega), show t = m.length by omega, show wrap64 ((i : Int) + 1) = ((i + 1 : Nat) : Int) by rw [pwQ (by omega) (by omega)]; omega]
  | succ n ih =>
    intro t ht
    have htm : t < m.length := by omega
    have h1 : (i + 1) % l.length < l.length := Nat.mod_lt _ (by omega)
    have h2 : (t + 1) % m.length < m.length := Nat.mod_lt _ (by omega)
    have hw : wrap64 ((t : Int) + 1) = ((t + 1 : Nat) : Int) := by rw [pwQ (by omega) (by omega)]; omega
    rw [show k + (n + 1) + 1 = (k + n + 1) + 1 by omega, spec_ParcelCommon.l1, if_pos (by omega), if_pos (by omega), if_pos (by omega), if_neg (by omega), idxQ htm (by omega), if_pos (by omega), if_pos (by omega)]
    simp only [at_rd]
    have go := ih (t + 1) (by omega)
    rw [cI] at go
    unfold hasAt at go
    have e1 : ((at_ l i).f0 == (at_ m ((t + 1) % m.length)).f0 && ((at_ l i).f1 == (at_ m ((t + 1) % m.length)).f1)) = sameP (nxt m t) (at_ l i) := by rw [same_sym]; rfl
    have e2 : ((at_ l ((i + 1) % l.length)).f0 == (at_ m t).f0 && ((at_ l ((i + 1) % l.length)).f1 == (at_ m t).f1)) = sameP (at_ m t) (nxt l i) := by rw [same_sym]; rfl
    have hb := cI_bd m (nxt l i) (at_ l i) t
    rw [e1]
    cases a : sameP (nxt m t) (at_ l i)
    · rw [a, Bool.and_false, if_neg (by decide)] at go
      rw [if_neg (by decide), hw]; exact go
    · rw [a, Bool.and_true] at go
      rw [if_pos rfl, if_neg (by omega), idxQ hi (by omega), if_pos (by omega), if_pos (by omega), if_pos (by omega), at_rd, e2]
      cases b : sameP (at_ m t) (nxt l i)
      · rw [b, if_neg (by decide)] at go
        rw [if_neg (by decide), hw]; exact go
      · rw [b, if_pos rfl] at go
        rw [if_pos rfl, hw, pwQ (x := c + cI m (nxt l i) (at_ l i) t + 1) (by omega) (by omega), Int.add_assoc]; exact go
theorem cntS_bd (l m : List Pt) (n : Nat) (hn : n ≤ 1000) : 0 ≤ cntS l m n ∧ cntS l m n ≤ n := by
  induction n with
  | zero => simp [cntS]
  | succ n ih =>
    have := ih (by omega)
    rw [cntS]
    split
    · rw [pwQ (by omega) (by omega)]; omega
    · omega
theorem Common_l0 {l m : List Pt} (hl : l.length ≤ 12) (hm : m.length ≤ 12) (hs : simpleB m = true) (n : Nat) :
    ∀ i k, i + n = l.length → 14 * n + 1 < k → spec_ParcelCommon.l0 k l m (cntS l m i) (i : Int) = some (cntS l m l.length) := by
  induction n with
  | zero =>
    intro i k hi hk
    obtain ⟨k, rfl⟩ : ∃ q, k = q + 1 := ⟨k - 1, by omega⟩
    rw [spec_ParcelCommon.l0, if_neg (by omega), show i = l.length by omega]
  | succ n ih =>
    intro i k hi hk
    obtain ⟨k, rfl⟩ : ∃ q, k = q + m.length + 1 + 1 := ⟨k - m.length - 2, by omega⟩
    have hil : i < l.length := by omega
    rw [spec_ParcelCommon.l0, if_pos (by omega)]
    have hb := cntS_bd l m i (by omega)
    have h := Common_l1 hl hm hil (cntS l m i) (by omega) k m.length 0 (by omega)
    rw [show cI m (nxt l i) (at_ l i) 0 = 0 from rfl, Int.add_zero] at h
    rw [show ((0 : Nat) : Int) = 0 from rfl] at h
    rw [h, cI_all hs]
    have go := ih (i + 1) k (by omega) (by omega)
    rw [cntS] at go
    cases c : hasS m (nxt l i) (at_ l i)
    · rw [c, if_neg (by decide)] at go
      rw [if_neg (by decide), Int.add_zero]; exact go
    · rw [c, if_pos rfl, pwQ (by omega) (by omega)] at go
      rw [if_pos rfl]; exact go
def commonR (l m : List Pt) : Int := if okP l && okP m then cntS l m l.length else -1
theorem okP_len {l : List Pt} (h : okP l = true) : l.length ≤ 12 := (cvB_iff.1 (okP_cv h)).1.2
theorem specCommon_eq {l m : List Pt} (hl : l.length ≤ 1048576) (hm : m.length ≤ 1048576) (k : Nat) (hk : l.length + m.length + 200 < k) : spec_ParcelCommon.f k l m = some (commonR l m) := by
  obtain ⟨k, rfl⟩ : ∃ q, k = q + 1 := ⟨k - 1, by omega⟩
  unfold spec_ParcelCommon.f commonR
  rw [specPValid_eq hl _ (by omega), specPValid_eq hm _ (by omega)]
  simp only [Option.bind_some]
  cases c : okP l
  · rfl
  · cases d : okP m
    · rfl
    · have h1 := okP_len c
      rw [if_pos rfl]
      simp only [spec_ParcelCommon.j0]
      rw [if_neg (by decide)]
      exact Common_l0 h1 (okP_len d) (okP_simple d) l.length 0 k (by omega) (by omega)
theorem implCommon_eq (l m : List Pt) : impl_ParcelCommon.f l m = some (commonR l m) := by
  unfold impl_ParcelCommon.f commonR
  cases okP l <;> cases okP m <;> rfl
end Go.Proofs.Ytgdhgncdpmalcaa.Pure
namespace Go.Proofs.Ytgdhgncdpmalcaa.Geo
set_option linter.unusedVariables false
/-! ### Sums -/
def sm (lo : Nat) : Nat → (Nat → Int) → Int
  | 0, _ => 0
  | k + 1, f => sm lo k f + f (lo + k)
theorem sm_congr {lo k : Nat} {f g : Nat → Int} (h : ∀ j, lo ≤ j → j < lo + k → f j = g j) : sm lo k f = sm lo k g := by
  induction k with
  | zero => rfl
  | succ k ih => simp only [sm]; rw [ih (fun j a b => h j a (by omega)), h (lo + k) (by omega) (by omega)]
theorem sm_add (lo k : Nat) (f g : Nat → Int) : sm lo k (fun j => f j + g j) = sm lo k f + sm lo k g := by
  induction k with
  | zero => rfl
  | succ k ih => simp only [sm]; rw [ih]; omega
theorem sm_zero {lo k : Nat} {f : Nat → Int} (h : ∀ j, lo ≤ j → j < lo + k → f j = 0) : sm lo k f = 0 := by
  induction k with
  | zero => rfl
  | succ k ih => simp only [sm]; rw [ih (fun j a b => h j a (by omega)), h (lo + k) (by omega) (by omega)]; rfl
end Go.Proofs.Ytgdhgncdpmalcaa.Geo
namespace Go.Proofs.Ytgdhgncdpmalcaa.Pure
open Go.RowKit Go.Proofs.Ytgdhgncdpmalcaa.Q Go.Proofs.Ytgdhgncdpmalcaa.Ring Go.Proofs.YtgdhgncdpmalcaaW.PrintWords Go.Proofs.YtgdhgncdpmalcaaW.PrintLast
theorem pwS {x : Int} (h0 : -9000000000000000000 ≤ x) (h1 : x ≤ 9000000000000000000) : wrap64 x = x := by unfold wrap64; omega
theorem l6In_S (a b c : Int) : spec_l6In.f a b c = some (decide (b ≤ a ∧ a ≤ c)) := by
  unfold spec_l6In.f
  by_cases h : a ≥ b
  · rw [if_pos h]; congr 1; rw [decide_eq_decide]; omega
  · rw [if_neg h]; congr 1; symm; rw [decide_eq_false_iff_not]; omega
def leftL (l : List Pt) (a b : Nat) : List Pt := (l.take (b + 1)).drop a
def rightL (l : List Pt) (a b : Nat) : List Pt := l.drop b ++ l.take (a + 1)
def splitN (l : List Pt) (a b : Nat) : List Pt × List Pt × Bool := if okP (leftL l a b) && okP (rightL l a b) then (leftL l a b, rightL l a b, true) else ([], [], false)
def splitR (l : List Pt) (a b : Int) : List Pt × List Pt × Bool := if okP l = true ∧ 0 ≤ a ∧ a < b ∧ b < (l.length : Int) then splitN l a.toNat b.toNat else ([], [], false)
theorem left_len (l : List Pt) (a b : Nat) : (leftL l a b).length ≤ l.length := by unfold leftL; rw [List.length_drop, List.length_take]; omega
theorem right_len (l : List Pt) (a b : Nat) : (rightL l a b).length ≤ 2 * l.length := by unfold rightL; rw [List.length_append, List.length_drop, List.length_take]; omega
theorem splitN_len {l : List Pt} (h : l.length ≤ 12) (a b : Nat) : (splitN l a b).1.length ≤ 24 ∧ (splitN l a b).2.1.length ≤ 24 := by
  have := left_len l a b; have := right_len l a b
  unfold splitN
  split
  · exact ⟨by dsimp only; omega, by dsimp only; omega⟩
  · exact ⟨by simp, by simp⟩
theorem splitR_len (l : List Pt) (a b : Int) : (splitR l a b).1.length ≤ 24 ∧ (splitR l a b).2.1.length ≤ 24 := by
  unfold splitR
  by_cases c : okP l = true ∧ 0 ≤ a ∧ a < b ∧ b < (l.length : Int)
  · rw [if_pos c]; exact splitN_len (cvB_iff.1 (okP_cv c.1)).1.2 _ _
  · rw [if_neg c]; exact ⟨by simp, by simp⟩
theorem spec_j0 {l : List Pt} (hl : l.length ≤ 12) {a b : Nat} (h1 : a < b) (h2 : b < l.length) (k : Nat) (hk : 100 < k) : spec_ParcelSplit.j0 (k + 1) l (a : Int) (b : Int) false = some (splitN l a b) := by
  have e1 : wrap64 ((b : Int) + 1) = ((b + 1 : Nat) : Int) := by rw [pwS (by omega) (by omega)]; omega
  have e2 : wrap64 ((a : Int) + 1) = ((a + 1 : Nat) : Int) := by rw [pwS (by omega) (by omega)]; omega
  have n1 := left_len l a b; have n2 := right_len l a b
  have n3 : (l.drop b).length ≤ 12 := by rw [List.length_drop]; omega
  have n4 : (l.take (a + 1)).length ≤ 12 := by rw [List.length_take]; omega
  simp only [spec_ParcelSplit.j0, Option.bind_some, e1, e2, Int.toNat_natCast, List.nil_append]
  rw [if_neg (by decide), if_pos (by omega), if_pos (by omega), if_pos (by omega)]
  change (if ([] : List Pt).length + (leftL l a b).length < _ then _ else _) = _
  rw [if_pos (by simp; omega), if_pos (by omega), if_pos (by omega), if_pos (by simp; omega), if_pos (by omega), if_pos (by omega), if_pos (by omega)]
  change (spec_ParcelValid.f k (leftL l a b)).bind (fun t => if t = true then (spec_ParcelValid.f k (rightL l a b)).bind (fun u => if u = true then some (leftL l a b, rightL l a b, true) else some ([], [], false)) else some ([], [], false)) = _
  rw [specPValid_eq (by omega) k (by omega), specPValid_eq (by omega) k (by omega)]
  simp only [Option.bind_some]
  unfold splitN
  cases okP (leftL l a b)
  · rfl
  · cases okP (rightL l a b) <;> rfl
theorem spec_j0_no (k : Nat) (l : List Pt) (a b : Int) : spec_ParcelSplit.j0 (k + 1) l a b true = some ([], [], false) := by
  simp only [spec_ParcelSplit.j0]; rw [if_pos trivial]
theorem specSplit_eq {l : List Pt} (h : l.length ≤ 1048576) {a b : Int} (ha : -9223372036854775808 ≤ a ∧ a ≤ 9223372036854775807) (hb : -9223372036854775808 ≤ b ∧ b ≤ 9223372036854775807) (k : Nat) (hk : l.length + 102 < k) : spec_ParcelSplit.f k l a b = some (splitR l a b) := by
  obtain ⟨k, rfl⟩ : ∃ m, k = m + 1 := ⟨k - 1, by omega⟩
  unfold spec_ParcelSplit.f
  rw [specPValid_eq h _ (by omega)]
  simp only [Option.bind_some, l6In_S]
  unfold splitR
  by_cases c : okP l = true
  · have hn := (cvB_iff.1 (okP_cv c)).1
    rw [if_pos c, pwS (x := (l.length : Int) - 1) (by omega) (by omega)]
    by_cases c1 : 0 ≤ b ∧ b ≤ (l.length : Int) - 1
    · rw [if_pos (by simpa using c1), pwS (x := b - 1) (by omega) (by omega)]
      by_cases c2 : 0 ≤ a ∧ a ≤ b - 1
      · rw [decide_eq_true c2, if_pos ⟨c, by omega, by omega, by omega⟩]
        have := spec_j0 hn.2 (a := a.toNat) (b := b.toNat) (by omega) (by omega) k (by omega)
        rwa [Int.toNat_of_nonneg c2.1, Int.toNat_of_nonneg c1.1] at this
      · rw [decide_eq_false c2, if_neg (by omega)]; exact spec_j0_no _ _ _ _
    · rw [if_neg (by simpa using c1), if_neg (by omega)]; exact spec_j0_no _ _ _ _
  · rw [if_neg c, if_neg (fun e => c e.1)]; exact spec_j0_no _ _ _ _
end Go.Proofs.Ytgdhgncdpmalcaa.Pure
namespace Go.Proofs.Ytgdhgncdpmalcaa.Pure
open Go.RowKit Go.Proofs.Ytgdhgncdpmalcaa.Q Go.Proofs.YtgdhgncdpmalcaaW.PrintWords Go.Proofs.YtgdhgncdpmalcaaW.PrintLast Go.Proofs.YtgdhgncdpmalcaaW.PrintMore

theorem rw64 {x : Int} (h0 : -9223372036854775808 ≤ x) (h1 : x ≤ 9223372036854775807) : wrap64 x = x := by
  unfold wrap64; omega

theorem xor_nonneg (x y : Int) (hx : 0 ≤ x) (hx' : x < 2 ^ 62) (hy : 0 ≤ y) (hy' : y < 2 ^ 62) : 0 ≤ Go.bits .xor .i64 x y := by
  obtain ⟨a, rfl⟩ : ∃ a : Nat, x = a := ⟨x.toNat, by omega⟩
  obtain ⟨b, rfl⟩ : ∃ b : Nat, y = b := ⟨y.toNat, by omega⟩
  have ha : a < 2 ^ 62 := by omega
  have hb : b < 2 ^ 62 := by omega
  have ha' : a % 2 ^ 64 = a := Nat.mod_eq_of_lt (by omega)
  have hb' : b % 2 ^ 64 = b := Nat.mod_eq_of_lt (by omega)
  have h := Nat.xor_lt_two_pow ha hb
  have e : Go.bits .xor .i64 (a : Int) (b : Int) = ((a ^^^ b : Nat) : Int) := by
    have e0 : Go.bits .xor .i64 (a : Int) (b : Int) = IntKind.i64.wrap ((BitVec.ofInt 64 (a : Int) ^^^ BitVec.ofInt 64 (b : Int)).toNat : Int) := rfl
    rw [e0, BitVec.ofInt_natCast, BitVec.ofInt_natCast, BitVec.toNat_xor, BitVec.toNat_ofNat, BitVec.toNat_ofNat, ha', hb', IntKind.wrap_i64]
    omega
  rw [e]
  exact Int.natCast_nonneg _

/-- All numbers of a list are bytes. -/
def Bts (b : List Int) : Prop := b.length ≤ 2000 ∧ ∀ x ∈ b, 0 ≤ x ∧ x ≤ 255
theorem Bts.at_ {b : List Int} (h : Bts b) (i : Int) : 0 ≤ rd b i ∧ rd b i ≤ 255 := by
  unfold rd
  by_cases hi : i.toNat < b.length
  · rw [List.getD_eq_getElem?_getD, List.getElem?_eq_getElem hi]; exact h.2 _ (List.getElem_mem hi)
  · rw [List.getD_eq_getElem?_getD, List.getElem?_eq_none (by omega)]; simp

theorem pick_ok (k : Nat) {b : List Int} {p n : Int} (hb : Bts b) (hp : 0 ≤ p ∧ p ≤ 1000000) (hn : 1 ≤ n) :
    ∃ v, spec_l6Rd_pick.f (k + 1) b p n = some (v, p + 1) ∧ 0 ≤ v ∧ v < n := by
  unfold spec_l6Rd_pick.f
  rw [if_neg (by omega), rw64 (x := p + 1) (by omega) (by omega)]
  simp only [spec_l6Rd_pick.j0]
  by_cases h0 : (b.length : Int) = 0
  · exact ⟨0, by rw [if_pos (by simpa using h0)], by omega, by omega⟩
  · rw [if_neg (by simpa using h0), show p + 1 - 1 = p by omega, rw64 (x := p) (by omega) (by omega)]
    have hlen : 0 < (b.length : Int) := by omega
    have hL := hb.1
    by_cases h1 : p < (b.length : Int)
    · rw [if_pos h1, if_pos hp.1, if_neg (by omega)]
      have hr := hb.at_ p
      rw [rw64 (by omega) (by omega), Int.tmod_eq_emod_of_nonneg hr.1]
      exact ⟨_, rfl, Int.emod_nonneg _ (by omega), Int.emod_lt_of_pos _ (by omega)⟩
    · rw [if_neg h1, if_neg h0]
      have q0 : 0 ≤ Int.tmod p (b.length : Int) := by rw [Int.tmod_eq_emod_of_nonneg hp.1]; exact Int.emod_nonneg _ (by omega)
      have q1 : Int.tmod p (b.length : Int) < (b.length : Int) := by rw [Int.tmod_eq_emod_of_nonneg hp.1]; exact Int.emod_lt_of_pos _ hlen
      rw [rw64 (x := p * 7) (by omega) (by omega), rw64 (x := p * 7 + 3) (by omega) (by omega)]
      have q2 : 0 ≤ Int.tmod (p * 7 + 3) (b.length : Int) := by rw [Int.tmod_eq_emod_of_nonneg (by omega)]; exact Int.emod_nonneg _ (by omega)
      have q3 : Int.tmod (p * 7 + 3) (b.length : Int) < (b.length : Int) := by rw [Int.tmod_eq_emod_of_nonneg (by omega)]; exact Int.emod_lt_of_pos _ hlen
      rw [if_pos q0, if_pos q1, if_pos q2, if_pos q3, if_neg (by omega)]
      have hr := hb.at_ (Int.tmod p (b.length : Int))
      have hs := hb.at_ (Int.tmod (p * 7 + 3) (b.length : Int))
      have hd : 0 ≤ Int.tdiv p (b.length : Int) ∧ Int.tdiv p (b.length : Int) ≤ p := by
        rw [Int.tdiv_eq_ediv_of_nonneg hp.1]
        exact ⟨Int.ediv_nonneg hp.1 (by omega), Int.ediv_le_self _ hp.1⟩
      generalize rd b (Int.tmod p (b.length : Int)) = u at *
      generalize rd b (Int.tmod (p * 7 + 3) (b.length : Int)) = v at *
      generalize Int.tdiv p (b.length : Int) = d at *
      rw [rw64 (x := u) (by omega) (by omega), rw64 (x := v) (by omega) (by omega), rw64 (x := u * 131) (by omega) (by omega), rw64 (x := v * 1117) (by omega) (by omega),
        rw64 (x := u * 131 + v * 1117) (by omega) (by omega), rw64 (x := p * 29) (by omega) (by omega), rw64 (x := u * 131 + v * 1117 + p * 29) (by omega) (by omega),
        rw64 (x := d) (by omega) (by omega), rw64 (x := d * 53) (by omega) (by omega), rw64 (x := u * 131 + v * 1117 + p * 29 + d * 53) (by omega) (by omega)]
      have hx : 0 ≤ u * 131 + v * 1117 + p * 29 + d * 53 := by omega
      have hx' : u * 131 + v * 1117 + p * 29 + d * 53 < 2 ^ 60 := by omega
      generalize u * 131 + v * 1117 + p * 29 + d * 53 = x at *
      have hy : 0 ≤ Int.tdiv x 64 ∧ Int.tdiv x 64 < 2 ^ 60 := by rw [Int.tdiv_eq_ediv_of_nonneg hx]; omega
      rw [rw64 (x := Int.tdiv x 64) (by omega) (by omega)]
      have hz := xor_nonneg x (Int.tdiv x 64) hx (by omega) hy.1 (by omega)
      rw [Int.tmod_eq_emod_of_nonneg hz]
      exact ⟨_, rfl, Int.emod_nonneg _ (by omega), Int.emod_lt_of_pos _ (by omega)⟩

theorem open_ok {l : List Int} (hl : ∀ x ∈ l, (Lit.int .u8 x).wf = true) : ∃ b, spec_l6Open.f l = some (b, 0) ∧ Bts b := by
  have hb : ∀ x ∈ l, 0 ≤ x ∧ x ≤ 255 := fun x hx => by
    have := hl x hx
    simp [Lit.wf, IntKind.min, IntKind.max, IntKind.signed, IntKind.bits] at this
    omega
  unfold spec_l6Open.f
  by_cases h : (l.length : Int) > 2000
  · rw [if_pos h, if_pos (by omega)]
    exact ⟨_, rfl, by rw [List.length_take]; omega, fun x hx => hb x (List.mem_of_mem_take hx)⟩
  · rw [if_neg h]
    exact ⟨_, rfl, by omega, hb⟩
end Go.Proofs.Ytgdhgncdpmalcaa.Pure
namespace Go.Proofs.Ytgdhgncdpmalcaa.Pure
open Go.RowKit Go.Proofs.Ytgdhgncdpmalcaa.Q Go.Proofs.YtgdhgncdpmalcaaW.PrintWords Go.Proofs.YtgdhgncdpmalcaaW.PrintLast Go.Proofs.YtgdhgncdpmalcaaW.PrintMore

theorem l91Point_ok (k : Nat) {b : List Int} {p : Int} (hb : Bts b) (hp : 0 ≤ p ∧ p ≤ 100000) :
    ∃ x y q, spec_l91Point.f (k + 1) b p = some (x, y, q) ∧ p ≤ q ∧ q ≤ p + 5 ∧ -10001 ≤ x ∧ x ≤ 10001 ∧ -10001 ≤ y ∧ y ≤ 10001 := by
  unfold spec_l91Point.f
  obtain ⟨v1, h1, _, _⟩ := pick_ok k hb (p := p) (n := 13) (by omega) (by omega)
  obtain ⟨v2, h2, _, _⟩ := pick_ok k hb (p := p + 1) (n := 13) (by omega) (by omega)
  obtain ⟨v3, h3, _, _⟩ := pick_ok k hb (p := p + 1 + 1) (n := 40) (by omega) (by omega)
  rw [h1]; simp only [Option.bind_some]
  rw [h2]; simp only [Option.bind_some]
  rw [h3]; simp only [Option.bind_some]
  rw [rw64 (x := v1 - 6) (by omega) (by omega), rw64 (x := v2 - 6) (by omega) (by omega)]
  by_cases e0 : v3 = 0
  · rw [if_pos e0]
    obtain ⟨v4, h4, _, _⟩ := pick_ok k hb (p := p + 1 + 1 + 1) (n := 3) (by omega) (by omega)
    rw [h4]; simp only [Option.bind_some]
    rw [if_pos (by omega), if_pos (by simp; omega)]
    refine ⟨_, _, _, rfl, by omega, by omega, ?_⟩
    have : v4 = 0 ∨ v4 = 1 ∨ v4 = 2 := by omega
    rcases this with rfl | rfl | rfl <;> refine ⟨by decide, by decide, by omega, by omega⟩
  · rw [if_neg e0]
    by_cases e1 : v3 = 1
    · rw [if_pos e1]
      obtain ⟨v4, h4, _, _⟩ := pick_ok k hb (p := p + 1 + 1 + 1) (n := 200) (by omega) (by omega)
      obtain ⟨v5, h5, _, _⟩ := pick_ok k hb (p := p + 1 + 1 + 1 + 1) (n := 200) (by omega) (by omega)
      rw [h4]; simp only [Option.bind_some]
      rw [h5]; simp only [Option.bind_some]
      rw [rw64 (x := v4 * 50) (by omega) (by omega), rw64 (x := v5 * 50) (by omega) (by omega), rw64 (x := v4 * 50 - 5000) (by omega) (by omega), rw64 (x := v5 * 50 - 5000) (by omega) (by omega)]
      exact ⟨_, _, _, rfl, by omega, by omega, by omega, by omega, by omega, by omega⟩
    · rw [if_neg e1]
      exact ⟨_, _, _, rfl, by omega, by omega, by omega, by omega, by omega, by omega⟩

end Go.Proofs.Ytgdhgncdpmalcaa.Pure
namespace Go.Proofs.Ytgdhgncdpmalcaa.Pure
open Go.RowKit Go.Proofs.Ytgdhgncdpmalcaa.Q Go.Proofs.YtgdhgncdpmalcaaW.PrintWords Go.Proofs.YtgdhgncdpmalcaaW.PrintLast
/-- The first corner, then the others from the last one on. -/
def backL : List Pt → List Pt
  | [] => []
  | p :: l => p :: l.reverse
theorem Back_ok {p : Pt} {l : List Pt} (hl : l.length ≤ 100) (n : Nat) : ∀ (x : List Pt) (k : Nat), n < k → n ≤ l.length → x.length ≤ 200 - n → spec_PolyBack.l0 k (p :: l) x (n : Int) = some (x ++ (l.take n).reverse, true) := by
  induction n with
  | zero =>
    intro x k hk _ _
    obtain ⟨k, rfl⟩ : ∃ m, k = m + 1 := ⟨k - 1, by omega⟩
    rw [spec_PolyBack.l0, if_neg (by omega)]
    simp
  | succ n ih =>
    intro x k hk hn hx
    obtain ⟨k, rfl⟩ : ∃ m, k = m + 1 := ⟨k - 1, by omega⟩
    rw [spec_PolyBack.l0, if_pos (by omega), if_pos (by omega), if_pos (by simp; omega), if_pos (by omega), pw64 (by omega) (by omega), show ((n + 1 : Nat) : Int) - 1 = n by omega, ih _ k (by omega) (by omega) (by simp; omega)]
    have e : rd_T32 (p :: l) ((n + 1 : Nat) : Int) = l[n] := by simp [rd_T32, List.getElem?_eq_getElem (show n < l.length by omega)]
    have e2 : (l.take (n + 1)).reverse = l[n] :: (l.take n).reverse := by rw [List.take_add_one, List.getElem?_eq_getElem (show n < l.length by omega)]; simp
    rw [e, e2, List.append_assoc]
    rfl
theorem spec_PolyBack_eq (k : Nat) (l : List Pt) (hl : l.length ≤ 1048576) (hk : l.length + 30 < k) : spec_PolyBack.f k l = some (if cvB l = true then (backL l, true) else ([], false)) := by
  unfold spec_PolyBack.f
  rw [l31Points_eq _ _ hl (by omega)]
  simp only [Option.bind_some]
  by_cases h : cvB l = true
  · have hv := cvB_iff.1 h
    rw [if_pos h, if_pos h, if_pos (by omega)]
    cases l with
    | nil => simp at hv
    | cons p l =>
      simp only [List.length_cons] at hv hk hl ⊢
      rw [pw64 (by omega) (by omega), show ((l.length + 1 : Nat) : Int) - 1 = (l.length : Int) by omega, Back_ok (by omega) l.length _ _ (by omega) (by omega) (by simp; omega), List.take_length]
      rfl
  · rw [if_neg h, if_neg h]
end Go.Proofs.Ytgdhgncdpmalcaa.Pure
namespace Go.Proofs.Ytgdhgncdpmalcaa.Pure
open Go.RowKit Go.Proofs.Ytgdhgncdpmalcaa.Q Go.Proofs.YtgdhgncdpmalcaaW.PrintWords Go.Proofs.YtgdhgncdpmalcaaW.PrintLast Go.Proofs.YtgdhgncdpmalcaaW.PrintMore
theorem l92Box_ok (k : Nat) {b : List Int} {p : Int} (hb : Bts b) (hp : 0 ≤ p ∧ p ≤ 100000) : ∃ l q, spec_l92Box.f (k + 2) b p = some (l, q) ∧ p ≤ q ∧ q ≤ p + 10 ∧ l.length ≤ 12 := by
  unfold spec_l92Box.f
  obtain ⟨v1, h1, _, _⟩ := pick_ok (k + 1) hb (p := p) (n := 5) (by omega) (by omega)
  obtain ⟨v2, h2, _, _⟩ := pick_ok (k + 1) hb (p := p + 1) (n := 5) (by omega) (by omega)
  obtain ⟨v3, h3, _, _⟩ := pick_ok (k + 1) hb (p := p + 1 + 1) (n := 5) (by omega) (by omega)
  obtain ⟨v4, h4, _, _⟩ := pick_ok (k + 1) hb (p := p + 1 + 1 + 1) (n := 5) (by omega) (by omega)
  rw [h1]; simp only [Option.bind_some]
  rw [h2]; simp only [Option.bind_some]
  rw [h3]; simp only [Option.bind_some]
  rw [h4]; simp only [Option.bind_some]
  have j : ∀ (x y : Int) (l : List Pt) (c : Bool) (r : Int), l.length = 4 → p ≤ r → r ≤ p + 8 → ∃ l' q, spec_l92Box.j0 (k + 2) x y l c b r = some (l', q) ∧ p ≤ q ∧ q ≤ p + 10 ∧ l'.length ≤ 12 := by
    intro x y l c r hl h0 h8
    obtain ⟨v5, h5, _, _⟩ := pick_ok k hb (p := r) (n := 3) (by omega) (by omega)
    cases c
    · rw [spec_l92Box.j0, if_neg (by decide), h5]
      simp only [Option.bind_some]
      by_cases e : v5 = 0
      · rw [if_pos e, if_pos (by omega)]; exact ⟨_, _, rfl, by omega, by omega, by simp; omega⟩
      · rw [if_neg e]; exact ⟨_, _, rfl, by omega, by omega, by omega⟩
    · rw [spec_l92Box.j0, if_pos rfl, Option.bind_some, if_pos (by omega), Option.bind_some, if_pos (by simp; omega), Option.bind_some, h5]
      simp only [Option.bind_some]
      by_cases e : v5 = 0
      · rw [if_pos e, if_pos (by simp; omega)]; exact ⟨_, _, rfl, by omega, by omega, by simp; omega⟩
      · rw [if_neg e]; exact ⟨_, _, rfl, by omega, by omega, by simp; omega⟩
  by_cases e : wrap64 (1 + v3) > 1
  · rw [if_pos e]
    obtain ⟨v5, h5, _, _⟩ := pick_ok (k + 1) hb (p := p + 1 + 1 + 1 + 1) (n := 2) (by omega) (by omega)
    rw [h5]; simp only [Option.bind_some]
    exact j _ _ _ _ _ rfl (by omega) (by omega)
  · rw [if_neg e]
    exact j _ _ _ _ _ rfl (by omega) (by omega)
theorem l92Star_l0 {b : List Int} (hb : Bts b) {s : List Pt} (hs : s.length ≤ 12) (n : Nat) : ∀ (i : Nat) (x : List Pt) (p : Int) (k : Nat), i + n = s.length → n < k → x.length ≤ i → 0 ≤ p → p + 2 * n ≤ 100000 →
    ∃ l q, spec_l92Star.l0 k s x (i : Int) b p = some (l, q) ∧ p ≤ q ∧ q ≤ p + 2 * n ∧ l.length ≤ x.length + n := by
  induction n with
  | zero =>
    intro i x p k hi hk _ _ _
    obtain ⟨k, rfl⟩ : ∃ m, k = m + 1 := ⟨k - 1, by omega⟩
    exact ⟨x, p, by rw [spec_l92Star.l0, if_neg (by omega)], by omega, by omega, by omega⟩
  | succ n ih =>
    intro i x p k hi hk hx h0 hp
    obtain ⟨k, rfl⟩ : ∃ m, k = m + 2 := ⟨k - 2, by omega⟩
    have hw : wrap64 ((i : Int) + 1) = ((i + 1 : Nat) : Int) := by rw [pw64 (by omega) (by omega)]; omega
    rw [spec_l92Star.l0, if_pos (by omega)]
    obtain ⟨v1, h1, _, _⟩ := pick_ok k hb (p := p) (n := 3) (by omega) (by omega)
    by_cases e : Int.tmod (i : Int) 4 = 0
    · rw [if_pos e, h1]
      simp only [Option.bind_some]
      rw [if_pos (by omega), if_pos (by omega), hw]
      obtain ⟨l, q, e1, e2, e3, e4⟩ := ih (i + 1) (x ++ [(⟨wrap64 ((wrap64 (1 + v1)) * ((rd_T32 s (i : Int)).f0)), wrap64 ((wrap64 (1 + v1)) * ((rd_T32 s (i : Int)).f1))⟩ : Pt)]) (p + 1) (k + 1) (by omega) (by omega) (by simp; omega) (by omega) (by omega)
      exact ⟨l, q, e1, by omega, by omega, by simp at e4; omega⟩
    · rw [if_neg e, h1]
      simp only [Option.bind_some]
      by_cases e' : v1 = 0
      · obtain ⟨v2, h2, _, _⟩ := pick_ok k hb (p := p + 1) (n := 3) (by omega) (by omega)
        rw [if_pos e', h2]
        simp only [Option.bind_some]
        rw [if_pos (by omega), if_pos (by omega), hw]
        obtain ⟨l, q, e1, e2, e3, e4⟩ := ih (i + 1) (x ++ [(⟨wrap64 ((wrap64 (1 + v2)) * ((rd_T32 s (i : Int)).f0)), wrap64 ((wrap64 (1 + v2)) * ((rd_T32 s (i : Int)).f1))⟩ : Pt)]) (p + 1 + 1) (k + 1) (by omega) (by omega) (by simp; omega) (by omega) (by omega)
        exact ⟨l, q, e1, by omega, by omega, by simp at e4; omega⟩
      · rw [if_neg e', hw]
        obtain ⟨l, q, e1, e2, e3, e4⟩ := ih (i + 1) x (p + 1) (k + 1) (by omega) (by omega) (by omega) (by omega) (by omega)
        exact ⟨l, q, e1, by omega, by omega, by omega⟩
theorem l92Star_ok (k : Nat) {b : List Int} {p : Int} (hb : Bts b) (hp : 0 ≤ p ∧ p ≤ 10000) : ∃ l q, spec_l92Star.f (k + 20) b p = some (l, q) ∧ p ≤ q ∧ q ≤ p + 24 ∧ l.length ≤ 12 := by
  obtain ⟨l, q, e1, e2, e3, e4⟩ := l92Star_l0 hb (s := [(⟨2, 0⟩ : Pt), (⟨2, 1⟩ : Pt), (⟨1, 2⟩ : Pt), (⟨0, 2⟩ : Pt), (⟨(-1), 2⟩ : Pt), (⟨(-2), 1⟩ : Pt), (⟨(-2), 0⟩ : Pt), (⟨(-2), (-1)⟩ : Pt), (⟨(-1), (-2)⟩ : Pt), (⟨0, (-2)⟩ : Pt), (⟨1, (-2)⟩ : Pt), (⟨2, (-1)⟩ : Pt)]) (by decide) 12 0 [] p (k + 20) rfl (by omega) (by simp) (by omega) (by omega)
  exact ⟨l, q, e1, by omega, by omega, by simpa using e4⟩
theorem l92Poly_l0 {b : List Int} (hb : Bts b) {m : Int} (n : Nat) : ∀ (i : Int) (x : List Pt) (p : Int) (k : Nat), i + n = m → n < k → (x.length : Int) ≤ i → m ≤ 12 → 0 ≤ i → 0 ≤ p → p + 5 * n ≤ 100000 →
    ∃ l q, spec_l92Poly.l0 k x m i b p = some (l, q) ∧ p ≤ q ∧ q ≤ p + 5 * n ∧ l.length ≤ x.length + n := by
  induction n with
  | zero =>
    intro i x p k hi hk _ _ _ _ _
    obtain ⟨k, rfl⟩ : ∃ m, k = m + 1 := ⟨k - 1, by omega⟩
    exact ⟨x, p, by rw [spec_l92Poly.l0, if_neg (by omega)], by omega, by omega, by omega⟩
  | succ n ih =>
    intro i x p k hi hk hx hm hi0 h0 hp
    obtain ⟨k, rfl⟩ : ∃ m, k = m + 2 := ⟨k - 2, by omega⟩
    obtain ⟨u, v, r, h1, h2, h3, _⟩ := l91Point_ok k hb (p := p) (by omega)
    rw [spec_l92Poly.l0, if_pos (by omega), h1]
    simp only [Option.bind_some]
    rw [if_pos (by omega), pw64 (by omega) (by omega)]
    obtain ⟨l, q, e1, e2, e3, e4⟩ := ih (i + 1) (x ++ [(⟨u, v⟩ : Pt)]) r (k + 1) (by omega) (by omega) (by simp; omega) (by omega) (by omega) (by omega) (by omega)
    exact ⟨l, q, e1, by omega, by omega, by simp at e4; omega⟩
theorem backL_length (l : List Pt) : (backL l).length = l.length := by cases l <;> simp [backL]
theorem l92Poly_ok (k : Nat) {b : List Int} {p : Int} (hb : Bts b) (hp : 0 ≤ p ∧ p ≤ 1000) : ∃ l q, spec_l92Poly.f (k + 60) b p = some (l, q) ∧ p ≤ q ∧ q ≤ p + 100 ∧ l.length ≤ 12 := by
  unfold spec_l92Poly.f
  obtain ⟨v1, h1, _, _⟩ := pick_ok (k + 59) hb (p := p) (n := 8) (by omega) (by omega)
  rw [h1]; simp only [Option.bind_some]
  have box : ∃ l q, spec_l92Box.f (k + 60) b (p + 1) = some (l, q) ∧ p + 1 ≤ q ∧ q ≤ p + 1 + 10 ∧ l.length ≤ 12 := l92Box_ok (k + 58) hb (by omega)
  obtain ⟨lb, qb, b1, b2, b3, b4⟩ := box
  by_cases e0 : v1 = 0
  · rw [if_pos e0]
    obtain ⟨v2, h2, _, _⟩ := pick_ok (k + 59) hb (p := p + 1) (n := 6) (by omega) (by omega)
    rw [h2]; simp only [Option.bind_some]
    obtain ⟨l, q, e1, e2, e3, e4⟩ := l92Poly_l0 hb (m := v2) v2.toNat 0 [] (p + 1 + 1) (k + 60) (by omega) (by omega) (by simp) (by omega) (by omega) (by omega) (by omega)
    exact ⟨l, q, e1, by omega, by omega, by simp at e4; omega⟩
  · rw [if_neg e0]
    by_cases e1 : v1 = 1
    · rw [if_pos e1, b1]; exact ⟨_, _, rfl, by omega, by omega, b4⟩
    · rw [if_neg e1]
      by_cases e2 : v1 = 2
      · rw [if_pos e2, b1]; exact ⟨_, _, rfl, by omega, by omega, b4⟩
      · rw [if_neg e2]
        by_cases e3 : v1 = 3
        · rw [if_pos e3, b1]; exact ⟨_, _, rfl, by omega, by omega, b4⟩
        · rw [if_neg e3]
          obtain ⟨l, q, s1, s2, s3, s4⟩ := l92Star_ok (k + 40) hb (p := p + 1) (by omega)
          rw [s1]; simp only [Option.bind_some]
          obtain ⟨v5, h5, _, _⟩ := pick_ok (k + 59) hb (p := q) (n := 5) (by omega) (by omega)
          rw [h5]; simp only [Option.bind_some]
          by_cases e5 : v5 = 0
          · rw [if_pos e5, spec_PolyBack_eq _ l (by omega) (by omega)]
            simp only [Option.bind_some]
            refine ⟨_, _, rfl, by omega, by omega, ?_⟩
            split
            · rw [backL_length]; exact s4
            · simp
          · rw [if_neg e5]; exact ⟨_, _, rfl, by omega, by omega, s4⟩
end Go.Proofs.Ytgdhgncdpmalcaa.Pure
namespace Go.Proofs.Ytgdhgncdpmalcaa.Pure
open Go.RowKit Go.Proofs.Ytgdhgncdpmalcaa.Q Go.Proofs.YtgdhgncdpmalcaaW.PrintWords Go.Proofs.YtgdhgncdpmalcaaW.PrintLast Go.Proofs.YtgdhgncdpmalcaaW.PrintMore
theorem l92Split_ok (k : Nat) {b : List Int} {p : Int} (hb : Bts b) (hp : 0 ≤ p ∧ p ≤ 1000) :
    ∃ l i j q, spec_l92Split.f (k + 60) b p = some (l, i, j, q) ∧ p ≤ q ∧ q ≤ p + 110 ∧ l.length ≤ 12 ∧ (0 ≤ i ∧ i ≤ 100) ∧ (0 ≤ j ∧ j ≤ 100) := by
  unfold spec_l92Split.f
  obtain ⟨l, q, e1, e2, e3, hl⟩ := l92Poly_ok k hb hp
  rw [e1]; simp only [Option.bind_some]
  have small : ∀ r, p ≤ r → r ≤ p + 102 → ∃ l' i j q', spec_l92Split.j0 (k + 60) l (l.length : Int) true b r = some (l', i, j, q') ∧ p ≤ q' ∧ q' ≤ p + 110 ∧ l'.length ≤ 12 ∧ (0 ≤ i ∧ i ≤ 100) ∧ (0 ≤ j ∧ j ≤ 100) := by
    intro r h0 h1
    obtain ⟨v1, h1, _, _⟩ := pick_ok (k + 58) hb (p := r) (n := 3) (by omega) (by omega)
    obtain ⟨v2, h2, _, _⟩ := pick_ok (k + 58) hb (p := r + 1) (n := 6) (by omega) (by omega)
    rw [spec_l92Split.j0, if_pos rfl, h1]; simp only [Option.bind_some]
    rw [h2]
    exact ⟨_, _, _, _, rfl, by omega, by omega, hl, by omega, by omega⟩
  by_cases h4 : (l.length : Int) < 4
  · rw [if_pos h4]; exact small q (by omega) (by omega)
  · rw [if_neg h4]
    obtain ⟨v0, h0, _, _⟩ := pick_ok (k + 59) hb (p := q) (n := 16) (by omega) (by omega)
    rw [h0]; simp only [Option.bind_some]
    cases hz : (v0 == 0)
    · obtain ⟨v1, h1, _, _⟩ := pick_ok (k + 58) hb (p := q + 1) (n := (l.length : Int) - 2) (by omega) (by omega)
      obtain ⟨v2, h2, _, _⟩ := pick_ok (k + 58) hb (p := q + 1 + 1) (n := (l.length : Int) - 2 - v1) (by omega) (by omega)
      rw [spec_l92Split.j0, if_neg (by decide), pw64 (x := (l.length : Int) - 2) (by omega) (by omega), h1]; simp only [Option.bind_some]
      rw [pw64 (x := (l.length : Int) - 2 - v1) (by omega) (by omega), h2]; simp only [Option.bind_some]
      rw [pw64 (x := (l.length : Int) - 1) (by omega) (by omega), pw64 (x := v1 + 2) (by omega) (by omega), pw64 (x := v1 + 2 + v2) (by omega) (by omega)]
      refine ⟨_, _, _, _, rfl, by omega, by omega, hl, by omega, ?_⟩
      unfold mn; split <;> omega
    · exact small (q + 1) (by omega) (by omega)
end Go.Proofs.Ytgdhgncdpmalcaa.Pure
namespace Go.Proofs.Ytgdhgncdpmalcaa.Pure
open Go.RowKit Go.Proofs.Ytgdhgncdpmalcaa.Q Go.Proofs.Ytgdhgncdpmalcaa.Ring Go.Proofs.Ytgdhgncdpmalcaa.Geo Go.Proofs.YtgdhgncdpmalcaaW.PrintWords Go.Proofs.YtgdhgncdpmalcaaW.PrintLast Go.Proofs.YtgdhgncdpmalcaaW.PrintMore
theorem DrawParcelCommon_ok (k : Nat) (hk : 3000 < k) {bs : List Int} (hbs : ∀ x ∈ bs, (Lit.int .u8 x).wf = true) : ∃ a b, spec_DrawParcelCommon.f k bs = some (a, b) ∧ a.length ≤ 100 ∧ b.length ≤ 100 := by
  unfold spec_DrawParcelCommon.f
  obtain ⟨b, e1, hb⟩ := open_ok hbs
  rw [e1]; simp only [Option.bind_some]
  obtain ⟨k, rfl⟩ : ∃ m, k = m + 60 := ⟨k - 60, by omega⟩
  obtain ⟨l, i, j, q, e2, h1, h2, hl, hi, hj⟩ := l92Split_ok k hb (p := 0) (by omega)
  rw [e2]; simp only [Option.bind_some]
  rw [specSplit_eq (l := l) (by omega) (by omega) (by omega) _ (by omega)]
  simp only [Option.bind_some]
  obtain ⟨hA, hB⟩ := splitR_len l i j
  generalize splitR l i j = w at hA hB
  obtain ⟨x, y, ok⟩ := w
  dsimp only at hA hB ⊢
  cases ok
  · rw [if_neg (by decide)]
    obtain ⟨m, r, e3, _, _, hm⟩ := l92Poly_ok k hb (p := q) (by omega)
    rw [e3]
    exact ⟨_, _, rfl, by (try dsimp only); omega, by (try dsimp only); omega⟩
  · rw [if_pos rfl]
    obtain ⟨v, h, _, _⟩ := pick_ok (k + 59) hb (p := q) (n := 4) (by omega) (by omega)
    rw [h]; simp only [Option.bind_some]
    by_cases c : v > 0
    · rw [if_pos c]; exact ⟨_, _, rfl, by (try dsimp only); omega, by (try dsimp only); omega⟩
    · rw [if_neg c]
      obtain ⟨m, r, e3, _, _, hm⟩ := l92Poly_ok k hb (p := q + 1) (by omega)
      rw [e3]
      exact ⟨_, _, rfl, by (try dsimp only); omega, by (try dsimp only); omega⟩
def bi (b : Bool) : Int := if b then 1 else 0
theorem cI_sm (m : List Pt) (p q : Pt) (n : Nat) : cI m p q n = sm 0 n (fun k => bi (hasAt m p q k)) := by
  induction n with
  | zero => rfl
  | succ n ih => rw [cI, sm, ih, Nat.zero_add]; unfold bi; split <;> omega
theorem cntS_sm {l m : List Pt} (hs : simpleB m = true) (n : Nat) (hn : n ≤ 1000) : cntS l m n = sm 0 n (fun i => sm 0 m.length (fun k => bi (hasAt m (nxt l i) (at_ l i) k))) := by
  induction n with
  | zero => rfl
  | succ n ih =>
    have hb := cntS_bd l m n (by omega)
    rw [cntS, sm, ← ih (by omega), Nat.zero_add, ← cI_sm, cI_all hs]
    split
    · rw [pwQ (by omega) (by omega)]
    · omega
theorem sm_swap (a b : Nat) (F : Nat → Nat → Int) : sm 0 a (fun i => sm 0 b (F i)) = sm 0 b (fun k => sm 0 a (fun i => F i k)) := by
  induction a with
  | zero => exact (sm_zero (fun _ _ _ => rfl)).symm
  | succ a ih =>
    simp only [sm]
    rw [ih, sm_add]
theorem has_sym (l m : List Pt) (i k : Nat) : hasAt m (nxt l i) (at_ l i) k = hasAt l (nxt m k) (at_ m k) i := by
  unfold hasAt
  rw [Bool.and_comm, same_sym (at_ m k), same_sym (nxt m k)]
theorem cnt_comm {l m : List Pt} (hl : l.length ≤ 12) (hm : m.length ≤ 12) (sl : simpleB l = true) (sm' : simpleB m = true) : cntS m l m.length = cntS l m l.length := by
  rw [cntS_sm sl _ (by omega), cntS_sm sm' _ (by omega), sm_swap]
  exact sm_congr (fun i _ _ => sm_congr (fun k _ _ => by rw [has_sym]))
theorem has_self {l : List Pt} (h3 : 3 ≤ l.length) (hs : simpleB l = true) {i : Nat} (hi : i < l.length) : hasS l (nxt l i) (at_ l i) = false := by
  refine hasS_no (fun k hk => ?_)
  cases c : hasAt l (nxt l i) (at_ l i) k
  · rfl
  · exfalso
    unfold hasAt at c
    rw [Bool.and_eq_true, same_iff, same_iff] at c
    have m1 := Nat.mod_lt (i + 1) (show 0 < l.length by omega)
    have m2 := Nat.mod_lt (k + 1) (show 0 < l.length by omega)
    have e1 : k = (i + 1) % l.length := at_inj hs hk m1 c.1
    have e2 : (k + 1) % l.length = i := at_inj hs m2 hi c.2
    by_cases a : i + 1 < l.length
    · rw [Nat.mod_eq_of_lt a] at e1
      by_cases b : k + 1 < l.length
      · rw [Nat.mod_eq_of_lt b] at e2; omega
      · rw [show k + 1 = l.length by omega, Nat.mod_self] at e2; omega
    · rw [show i + 1 = l.length by omega, Nat.mod_self] at e1
      rw [e1, Nat.mod_eq_of_lt (by omega)] at e2; omega
theorem cnt_self {l : List Pt} (h3 : 3 ≤ l.length) (hs : simpleB l = true) (n : Nat) (hn : n ≤ l.length) : cntS l l n = 0 := by
  induction n with
  | zero => rfl
  | succ n ih => rw [cntS, has_self h3 hs (by omega), if_neg (by decide)]; exact ih (by omega)
theorem FnCommon : laws_FnCommon.Pure := by
  intro bs _ _ hbs
  obtain ⟨K, hK⟩ : ∃ K : Nat, K = 10000 := ⟨_, rfl⟩
  refine ⟨K + 2, ?_⟩
  unfold laws_FnCommon.f
  by_cases h1 : (bs.length : Int) > 1048576
  · rw [if_pos h1]
  · rw [if_neg h1]
    obtain ⟨a, b, e, ha, hb⟩ := DrawParcelCommon_ok (K + 2) (by omega) hbs
    rw [e]; simp only [Option.bind_some]
    rw [implCommon_eq, specCommon_eq (by omega) (by omega) _ (by omega)]
    simp only [Option.bind_some, if_true]
    rw [laws_FnCommon.j0]
    cases ca : okP a
    · have : commonR a b = -1 := by unfold commonR; rw [ca]; rfl
      rw [this, if_pos (by decide)]; simp
    · cases cb : okP b
      · have : commonR a b = -1 := by unfold commonR; rw [ca, cb]; rfl
        rw [this, if_pos (by decide)]; simp
      · have la := cvB_iff.1 (okP_cv ca)
        have lb := cvB_iff.1 (okP_cv cb)
        have e1 : commonR a b = cntS a b a.length := by unfold commonR; rw [ca, cb]; rfl
        have e2 : commonR b a = cntS a b a.length := by unfold commonR; rw [ca, cb]; exact cnt_comm la.1.2 lb.1.2 (okP_simple ca) (okP_simple cb)
        have e3 : commonR a a = 0 := by unfold commonR; rw [ca]; exact cnt_self la.1.1 (okP_simple ca) _ (Nat.le_refl _)
        have b1 := cntS_bd a b a.length (by omega)
        have b2 := cntS_bd b a b.length (by omega)
        rw [cnt_comm la.1.2 lb.1.2 (okP_simple ca) (okP_simple cb)] at b2
        rw [e1, decide_eq_false (by omega), if_neg (by decide), implCommon_eq, e2]
        simp only [Option.bind_some, if_true]
        rw [if_pos (by omega), if_pos (by omega), implCommon_eq, e3]
        rfl
end Go.Proofs.Ytgdhgncdpmalcaa.Pure
