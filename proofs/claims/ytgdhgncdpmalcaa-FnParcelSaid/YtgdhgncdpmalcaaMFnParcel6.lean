/- Part 6 of what the proof of this law rests on: the functions of the translation as plain Lean functions with their walks, and the plain laws behind. -/
import Derived.Below
import Derived.Test.YtgdhgncdpmalcaaMFnParcel5
namespace Go.Proofs.Ytgdhgncdpmalcaa.Q
open Go.RowKit Go.Proofs.YtgdhgncdpmalcaaW.PrintWords Go.Proofs.YtgdhgncdpmalcaaW.PrintLast Go.Proofs.YtgdhgncdpmalcaaW.PrintMore
attribute [local go_sem] max2_int min2_int max_two min_two max_three min_three max_four min_four   -- for this text's walks alone
set_option linter.unusedVariables false
set_option linter.unusedSimpArgs false

/-! ### spec_ParcelValid: function 22 -/
def spec_ParcelValid.f (k : Nat) (l0 : List (S32)) : Option (Bool) := (spec_PolyValid.f l0).bind fun t403 => (if t403 = true then ((spec_l31Area.f k l0).bind fun t404 => (some (decide (t404 > 0)))) else (some false))
set_option maxHeartbeats 8000000 in
set_option maxRecDepth 100000 in
theorem spec_ParcelValid.calls (k : Nat) (A0 : Option Addr) (c0 : Nat) (l0 : List (S32)) (r : Bool) (w : World) (hr0 : Kd.C k32 w A0 l0.length l0) (hc0 : l0.length ≤ c0) (h : spec_ParcelValid.f k l0 = some r) :
    Calls Try.prog 22 #[.slice A0 l0.length c0] w fun e w' => e = .returned (.bool r) ∧ Below w.heap.size w w' := by
  have HR0 := Aside0.mk hr0
  have HC0 := Aside0.mk hc0
  clear hr0 hc0
  have HB := Aside0.mk (Below.refl w.heap.size w)
  have H : ((spec_PolyValid.f l0).bind fun t403 => (if t403 = true then ((spec_l31Area.f k l0).bind fun t404 => (some (decide (t404 > 0)))) else (some false))) = some r := h
  clear h
  replace H := Option.bind_eq_some_iff.mp H
  obtain ⟨t403, A20, H⟩ := H
  replace H : (if t403 = true then ((spec_l31Area.f k l0).bind fun t404 => (some (decide (t404 > 0)))) else (some false)) = some r := H
  have A2 := Aside0.mk A20
  clear A20
  by_cases c3 : t403 = true
  · subst c3
    have H1 : ((spec_l31Area.f k l0).bind fun t404 => (some (decide (t404 > 0)))) = some r := by rw [if_pos rfl] at H; exact H
    clear H
    have H := H1
    clear H1
    replace H := Option.bind_eq_some_iff.mp H
    obtain ⟨t404, A40, H⟩ := H
    replace H : (some (decide (t404 > 0))) = some r := H
    have A4 := Aside0.mk A40
    clear A40
    obtain rfl := Option.some.inj H
    go_enter Try.func22, Try.ntmps22
    go_wp2_with (first | ((with_reducible refine gate_callee (f := 19) rfl ?_); refine goesL_ (some 4) rfl rfl Try.func19 (by kernel_rfl) rfl #[.slice A0 l0.length c0] rfl (by (try simp only [List.map_toArray, List.map_cons, List.map_nil]); first | done | rfl | (simp only [List.length_drop, List.length_take]; rfl)) ?_; (with_reducible refine (spec_PolyValid.calls _ _ l0 true _ ?side1 ?side2 A2.out).mono ?_); (case side1 => repeat (first | exact HR0.out | (with_reducible refine Kd.C_alloc ?_ _) | (with_reducible refine Kd.C_drewN ?_ _) | (with_reducible refine Kd.C_drew ?_))); (case side2 => exact HC0.out); rintro e w5 ⟨rfl, hb⟩; refine ⟨_, rfl, ?_⟩; have n0_ := Aside0.mk (below_step (by repeat (first | (with_reducible first | exact HB.out | apply below_alloc | apply pw_below_drewN | apply below_drew1) | exact HB.out)) hb); clear HB; have HB := n0_; clear n0_; (try clear hb); (try clear hb2); (try clear hk); (try clear hi)) | (go_at_call 46; (with_reducible refine (spec_l31Area.calls k _ _ l0 t404 _ ?side1 ?side2 A4.out).mono ?_); (case side1 => repeat (first | exact (Kd.C_below HR0.out HB.out) | (with_reducible refine Kd.C_alloc ?_ _) | (with_reducible refine Kd.C_drewN ?_ _) | (with_reducible refine Kd.C_drew ?_))); (case side2 => exact HC0.out); rintro e w6 ⟨rfl, hb⟩; have n0_ := Aside0.mk (below_step (by repeat (first | (with_reducible first | exact HB.out | apply below_alloc | apply pw_below_drewN | apply below_drew1) | exact HB.out)) hb); clear HB; have HB := n0_; clear n0_; (try clear hb); (try clear hb2); (try clear hk); (try clear hi)))
    go_ret
    exact ⟨by first | rfl | (simp [errW_none, errW_some] <;> rfl) | (simp [*, errW_none, errW_some] <;> rfl), by repeat (first | (with_reducible first | exact HB.out | apply below_alloc | apply pw_below_drewN | apply below_drew1) | exact HB.out)⟩
  · replace c3 := Bool.eq_false_iff.mpr c3
    subst c3
    have H1 : (some false) = some r := by rw [if_neg (show ¬ (false = true) by decide)] at H; exact H
    clear H
    have H := H1
    clear H1
    obtain rfl := Option.some.inj H
    go_enter Try.func22, Try.ntmps22
    go_wp2_with (first | ((with_reducible refine gate_callee (f := 19) rfl ?_); refine goesL_ (some 4) rfl rfl Try.func19 (by kernel_rfl) rfl #[.slice A0 l0.length c0] rfl (by (try simp only [List.map_toArray, List.map_cons, List.map_nil]); first | done | rfl | (simp only [List.length_drop, List.length_take]; rfl)) ?_; (with_reducible refine (spec_PolyValid.calls _ _ l0 false _ ?side1 ?side2 A2.out).mono ?_); (case side1 => repeat (first | exact HR0.out | (with_reducible refine Kd.C_alloc ?_ _) | (with_reducible refine Kd.C_drewN ?_ _) | (with_reducible refine Kd.C_drew ?_))); (case side2 => exact HC0.out); rintro e w7 ⟨rfl, hb⟩; refine ⟨_, rfl, ?_⟩; have n0_ := Aside0.mk (below_step (by repeat (first | (with_reducible first | exact HB.out | apply below_alloc | apply pw_below_drewN | apply below_drew1) | exact HB.out)) hb); clear HB; have HB := n0_; clear n0_; (try clear hb); (try clear hb2); (try clear hk); (try clear hi)))
    go_ret
    exact ⟨by first | rfl | (simp [errW_none, errW_some] <;> rfl) | (simp [*, errW_none, errW_some] <;> rfl), by repeat (first | (with_reducible first | exact HB.out | apply below_alloc | apply pw_below_drewN | apply below_drew1) | exact HB.out)⟩

end Go.Proofs.Ytgdhgncdpmalcaa.Q
namespace Go.Proofs.Ytgdhgncdpmalcaa.Q
open Go.RowKit Go.Proofs.YtgdhgncdpmalcaaW.PrintWords Go.Proofs.YtgdhgncdpmalcaaW.PrintLast Go.Proofs.YtgdhgncdpmalcaaW.PrintMore
attribute [local go_sem] max2_int min2_int max_two min_two max_three min_three max_four min_four   -- for this text's walks alone
set_option linter.unusedVariables false
set_option linter.unusedSimpArgs false

/-! ### laws_FnParcel: function 5 -/
mutual
def laws_FnParcel.j0 : Nat → List (S32) → Bool → Bool → Bool → Option (Bool)
  | 0, _, _, _, _ => none
  | k + 1, x3, x4, x5, x29 => if x29 = true then (some (x4 == x5)) else ((impl_PolyBack.f k x3).bind fun bt410 => ((impl_PolyArea.f x3).bind fun bt414 => (laws_FnParcel.l0 k x3 bt410.1 bt410.2 bt414.1 bt414.2 (([] : List (S32))) true 0)))
def laws_FnParcel.l0 : Nat → List (S32) → List (S32) → Bool → Int → Bool → List (S32) → Bool → Int → Option (Bool)
  | 0, _, _, _, _, _, _, _, _ => none
  | k + 1, x3, x6, x7, x8, x9, x10, x11, x12 => if x12 < (x3.length : Int) then (if 0 ≤ x12 then (if x11 = true then ((impl_PointValid.f (wrap64 (((rd_T32 x3 x12).f0) + 3)) (wrap64 (((rd_T32 x3 x12).f1) + 3))).bind fun t422 => (if x10.length < 8796093022208 then (laws_FnParcel.l0 k x3 x6 x7 x8 x9 (x10 ++ [(⟨wrap64 (((rd_T32 x3 x12).f0) + 3), wrap64 (((rd_T32 x3 x12).f1) + 3)⟩ : S32)]) t422 (wrap64 (x12 + 1))) else (none))) else (if x10.length < 8796093022208 then (laws_FnParcel.l0 k x3 x6 x7 x8 x9 (x10 ++ [(⟨wrap64 (((rd_T32 x3 x12).f0) + 3), wrap64 (((rd_T32 x3 x12).f1) + 3)⟩ : S32)]) false (wrap64 (x12 + 1))) else (none))) else (none)) else (if x7 = true then (if x9 = true then (if x8 > 0 then ((impl_PolyValid.f x3).bind fun t429 => (if t429 = true then ((impl_ParcelValid.f x6).bind fun t430 => (if t430 = true then (some false) else (if x11 = true then ((impl_ParcelValid.f x10).bind fun t431 => (some t431)) else (some true)))) else (some false))) else (some false)) else (some false)) else (some false))
end
def laws_FnParcel.f (k : Nat) (l0 : List Int) : Option (Bool) := if (l0.length : Int) > 1048576 then (some true) else ((spec_DrawParcelValid.f k l0).bind fun t405 => ((impl_ParcelValid.f t405).bind fun t408 => ((spec_ParcelValid.f k t405).bind fun t409 => (if (t408 != t409) = true then (laws_FnParcel.j0 k t405 t408 t409 true) else (laws_FnParcel.j0 k t405 t408 t409 (!t408))))))
def laws_FnParcel.T15 : Bool × List (List Nat × List Nat) := (true, [([], []), ([], []), ([0, 1], [0, 1]), ([2], [2]), ([3], [3]), ([4], [4]), ([], []), ([], []), ([6, 7], [6, 7]), ([8], [8]), ([9], [9]), ([10], [10]), ([5, 11], [5, 11]), ([], []), ([13, 12, 0, 1, 2, 3, 4, 5, 6, 7, 8, 9, 10, 11, 12, 13], [12, 13])])
def laws_FnParcel.B15 : List Nat := [0, 0, 3, 7, 15, 31, 0, 0, 192, 448, 960, 1984, 4095, 0, 16383]
theorem laws_FnParcel.tab15 : rtab .any (opsOf Try.f5 15) = laws_FnParcel.T15 := by kernel_rfl
theorem laws_FnParcel.bits15 : waitsOk laws_FnParcel.T15.2 laws_FnParcel.B15 = true := by kernel_rfl
set_option maxHeartbeats 8000000 in
set_option maxRecDepth 100000 in
theorem laws_FnParcel.calls (k : Nat) (A0 : Option Addr) (c0 : Nat) (l0 : List Int) (r : Bool) (w : World) (hr0 : Kd.C (Kd.int .u8) w A0 l0.length l0) (hc0 : l0.length ≤ c0) (h : laws_FnParcel.f k l0 = some r) (hT0 : r = true) :
    Calls Try.prog 5 #[.slice A0 l0.length c0] w fun e w' => e = .returned (.bool r) ∧ Below w.heap.size w w' := by
  have hu32 := Try.underlying32
  have hT := Aside0.mk hT0
  clear hT0
  have HR0 := Aside0.mk hr0
  have HC0 := Aside0.mk hc0
  clear hr0 hc0
  have HB := Aside0.mk (Below.refl w.heap.size w)
  have H : (if (l0.length : Int) > 1048576 then (some true) else ((spec_DrawParcelValid.f k l0).bind fun t405 => ((impl_ParcelValid.f t405).bind fun t408 => ((spec_ParcelValid.f k t405).bind fun t409 => (if (t408 != t409) = true then (laws_FnParcel.j0 k t405 t408 t409 true) else (laws_FnParcel.j0 k t405 t408 t409 (!t408))))))) = some r := h
  clear h
  by_cases c2 : (l0.length : Int) > 1048576
  · rw [if_pos c2] at H
    have c2b0 : decide (1048576 < (l0.length : Int)) = true := decide_eq_true c2
    have c2b1 : decide (1048576 < l0.length) = true := decide_eq_true (by omega)
    clear c2
    obtain rfl := Option.some.inj H
    go_enter Try.func5, Try.ntmps5
    go_wp2
    go_ret
    exact ⟨by first | rfl | (simp [errW_none, errW_some] <;> rfl) | (simp [*, errW_none, errW_some] <;> rfl), by repeat (first | (with_reducible first | exact HB.out | apply below_alloc | apply pw_below_drewN | apply below_drew1) | exact HB.out)⟩
  · rw [if_neg c2] at H
    have c2b0 : decide (1048576 < (l0.length : Int)) = false := decide_eq_false c2
    have c2b1 : decide (1048576 < l0.length) = false := decide_eq_false (by omega)
    clear c2
    replace H := Option.bind_eq_some_iff.mp H
    obtain ⟨t405, A30, H⟩ := H
    replace H : ((impl_ParcelValid.f t405).bind fun t408 => ((spec_ParcelValid.f k t405).bind fun t409 => (if (t408 != t409) = true then (laws_FnParcel.j0 k t405 t408 t409 true) else (laws_FnParcel.j0 k t405 t408 t409 (!t408))))) = some r := H
    have A3 := Aside0.mk A30
    clear A30
    replace H := Option.bind_eq_some_iff.mp H
    obtain ⟨t408, A40, H⟩ := H
    replace H : ((spec_ParcelValid.f k t405).bind fun t409 => (if (t408 != t409) = true then (laws_FnParcel.j0 k t405 t408 t409 true) else (laws_FnParcel.j0 k t405 t408 t409 (!t408)))) = some r := H
    have A4 := Aside0.mk A40
    clear A40
    replace H := Option.bind_eq_some_iff.mp H
    obtain ⟨t409, A50, H⟩ := H
    replace H : (if (t408 != t409) = true then (laws_FnParcel.j0 k t405 t408 t409 true) else (laws_FnParcel.j0 k t405 t408 t409 (!t408))) = some r := H
    have A5 := Aside0.mk A50
    clear A50
    have HC6 := Aside0.mk H
    clear H
    go_enter Try.func5, Try.ntmps5
    go_upto_region 6 with (first | ((with_reducible refine gate_callee (f := 20) rfl ?_); refine goesL_ (some 18) rfl rfl Try.func20 (by kernel_rfl) rfl #[.slice A0 l0.length c0] rfl (by (try simp only [List.map_toArray, List.map_cons, List.map_nil]); first | done | rfl | (simp only [List.length_drop, List.length_take]; rfl)) ?_; (with_reducible refine (spec_DrawParcelValid.calls k _ _ l0 t405 _ ?side1 ?side2 A3.out).mono ?_); (case side1 => repeat (first | exact HR0.out | (with_reducible refine Kd.C_alloc ?_ _) | (with_reducible refine Kd.C_drewN ?_ _) | (with_reducible refine Kd.C_drew ?_))); (case side2 => exact HC0.out); rintro e w7 ⟨v406, rfl, ho0, hb⟩; refine ⟨_, rfl, ?_⟩; have n0_ := Aside0.mk (Kd.Q_lower ho0 (below_size (by repeat (first | (with_reducible first | exact HB.out | apply below_alloc | apply pw_below_drewN | apply below_drew1) | exact HB.out)))); have n1_ := Aside0.mk (below_step (by repeat (first | (with_reducible first | exact HB.out | apply below_alloc | apply pw_below_drewN | apply below_drew1) | exact HB.out)) hb); clear HB; have HO407 := n0_; have HB := n1_; clear n0_ n1_; (try clear hb); (try clear hb2); (try clear hk); (try clear hi); (try clear ho0); obtain ⟨Ao8, co8, eo8, _⟩ := Kd.Q_slice HO407.out; subst eo8) | ((with_reducible refine gate_callee (f := 21) rfl ?_); refine goesL_ (some 20) rfl rfl Try.func21 (by kernel_rfl) rfl #[.slice Ao8 t405.length co8] rfl (by (try simp only [List.map_toArray, List.map_cons, List.map_nil]); first | done | rfl | (simp only [List.length_drop, List.length_take]; rfl)) ?_; (with_reducible refine (impl_ParcelValid.calls _ _ t405 t408 _ ?side1 ?side2 A4.out).mono ?_); (case side1 => repeat (first | exact (Kd.Q_reads' HO407.out).2.2 | (with_reducible refine Kd.C_alloc ?_ _) | (with_reducible refine Kd.C_drewN ?_ _) | (with_reducible refine Kd.C_drew ?_))); (case side2 => exact (Kd.Q_reads' HO407.out).2.1); rintro e w9 ⟨rfl, hb⟩; refine ⟨_, rfl, ?_⟩; have n0_ := Aside0.mk (Kd.Q_below (by (with_reducible repeat (first | apply Kd.Q_alloc | apply Kd.Q_drewN | apply Kd.Q_drew)); exact HO407.out) hb); have n1_ := Aside0.mk (below_step (by repeat (first | (with_reducible first | exact HB.out | apply below_alloc | apply pw_below_drewN | apply below_drew1) | exact HB.out)) hb); clear HO407; clear HB; have HO407 := n0_; have HB := n1_; clear n0_ n1_; (try clear hb); (try clear hb2); (try clear hk); (try clear hi)) | ((with_reducible refine gate_callee (f := 22) rfl ?_); refine goesL_ (some 22) rfl rfl Try.func22 (by kernel_rfl) rfl #[.slice Ao8 t405.length co8] rfl (by (try simp only [List.map_toArray, List.map_cons, List.map_nil]); first | done | rfl | (simp only [List.length_drop, List.length_take]; rfl)) ?_; (with_reducible refine (spec_ParcelValid.calls k _ _ t405 t409 _ ?side1 ?side2 A5.out).mono ?_); (case side1 => repeat (first | exact (Kd.Q_reads' HO407.out).2.2 | (with_reducible refine Kd.C_alloc ?_ _) | (with_reducible refine Kd.C_drewN ?_ _) | (with_reducible refine Kd.C_drew ?_))); (case side2 => exact (Kd.Q_reads' HO407.out).2.1); rintro e w10 ⟨rfl, hb⟩; refine ⟨_, rfl, ?_⟩; have n0_ := Aside0.mk (Kd.Q_below (by (with_reducible repeat (first | apply Kd.Q_alloc | apply Kd.Q_drewN | apply Kd.Q_drew)); exact HO407.out) hb); have n1_ := Aside0.mk (below_step (by repeat (first | (with_reducible first | exact HB.out | apply below_alloc | apply pw_below_drewN | apply below_drew1) | exact HB.out)) hb); clear HO407; clear HB; have HO407 := n0_; have HB := n1_; clear n0_ n1_; (try clear hb); (try clear hb2); (try clear hk); (try clear hi)))
    (try simp only [Act.put, List.setIfInBounds_toArray, List.set_cons_zero, List.set_cons_succ])
    go_cut [29] (fun v29 wc => ∃ (kq : Nat) (x29_5 : Bool), v29 = .bool x29_5 ∧ Aside0 (laws_FnParcel.j0 kq t405 t408 t409 x29_5 = some r) ∧ Aside0 (kq ≤ k) ∧ Aside0 (Kd.Q k32 32 wc w.heap.size (fun _ => True) (.slice Ao8 t405.length co8) t405) ∧ Aside0 (Below w.heap.size w wc))
    case first =>
      have H := HC6.out
      clear HC6
      by_cases c11 : (t408 != t409) = true
      · rw [if_pos c11] at H
        have c11b0 : (t408 != t409) = true := c11
        (try (have c11b1 : decide (t408 = t409) = false := by simpa using c11))
        (try (have c11b2 : (t408 == t409) = false := by simpa using c11))
        (try (have c11b3 : ¬ (t408 = t409) := by simpa using c11))
        clear c11
        (first | rw [c11b0] | (simp only [i64_w, i32_w]; rw [c11b0]) | skip)
        have H' := Aside0.mk H
        clear H
        go_wp2
        go_meet
        case rel => exact ⟨_, (true), (by first | rfl | (simp; done) | (simp [*]; done)), H', ⟨by first | omega | exact Nat.le_refl _⟩, ⟨by (with_reducible repeat (first | apply Kd.Q_alloc | apply Kd.Q_drewN | apply Kd.Q_drew)); exact HO407.out⟩, ⟨by repeat (first | (with_reducible first | exact HB.out | apply below_alloc | apply pw_below_drewN | apply below_drew1) | exact HB.out)⟩⟩
      · rw [if_neg c11] at H
        have c11b0 : (t408 != t409) = false := by simpa using c11
        (try (have c11b1 : decide (t408 = t409) = true := by simpa using c11))
        (try (have c11b2 : (t408 == t409) = true := by simpa using c11))
        clear c11
        (first | rw [c11b0] | (simp only [i64_w, i32_w]; rw [c11b0]) | skip)
        have H' := Aside0.mk H
        clear H
        go_wp2
        go_meet
        case rel => exact ⟨_, (!t408), (by first | rfl | (simp; done) | (simp [*]; done)), H', ⟨by first | omega | exact Nat.le_refl _⟩, ⟨by (with_reducible repeat (first | apply Kd.Q_alloc | apply Kd.Q_drewN | apply Kd.Q_drew)); exact HO407.out⟩, ⟨by repeat (first | (with_reducible first | exact HB.out | apply below_alloc | apply pw_below_drewN | apply below_drew1) | exact HB.out)⟩⟩
    case rest =>
      clear HC6
      try clear c1
      try clear c2
      try clear c2b0
      try clear c2b1
      try clear p2
      try clear c5
      try clear c11
      try clear c11b0
      try clear c11b1
      try clear c11b2
      obtain ⟨kq, x29_5, rfl, HA, HJ5, HO_3, HB⟩ := hcut
      cases kq with
      | zero => exact absurd HA.out (by simp [laws_FnParcel.j0])
      | succ kj5 =>
        have H := HA.out
        clear HA
        simp only [laws_FnParcel.j0] at H
        by_cases c12 : x29_5 = true
        · subst c12
          have H1 : (some (t408 == t409)) = some r := by rw [if_pos rfl] at H; exact H
          clear H
          have H := H1
          clear H1
          obtain rfl := Option.some.inj H
          go_wp2
          go_ret
          exact ⟨by first | rfl | (simp [errW_none, errW_some] <;> rfl) | (simp [*, errW_none, errW_some] <;> rfl), by repeat (first | (with_reducible first | exact HB.out | apply below_alloc | apply pw_below_drewN | apply below_drew1) | exact HB.out)⟩
        · replace c12 := Bool.eq_false_iff.mpr c12
          subst c12
          have H1 : ((impl_PolyBack.f kj5 t405).bind fun bt410 => ((impl_PolyArea.f t405).bind fun bt414 => (laws_FnParcel.l0 kj5 t405 bt410.1 bt410.2 bt414.1 bt414.2 (([] : List (S32))) true 0))) = some r := by rw [if_neg (show ¬ (false = true) by decide)] at H; exact H
          clear H
          have H := H1
          clear H1
          replace H := Option.bind_eq_some_iff.mp H
          obtain ⟨⟨t410, t411⟩, A130, H⟩ := H
          replace H : ((impl_PolyArea.f t405).bind fun bt414 => (laws_FnParcel.l0 kj5 t405 t410 t411 bt414.1 bt414.2 (([] : List (S32))) true 0)) = some r := H
          have A13 := Aside0.mk A130
          clear A130
          replace H := Option.bind_eq_some_iff.mp H
          obtain ⟨⟨t414, t415⟩, A140, H⟩ := H
          replace H : (laws_FnParcel.l0 kj5 t405 t410 t411 t414 t415 (([] : List (S32))) true 0) = some r := H
          have A14 := Aside0.mk A140
          clear A140
          obtain ⟨y416, hy416⟩ : ∃ y_ : List (S32), y_ = (([] : List (S32))) := ⟨_, rfl⟩
          replace H : (laws_FnParcel.l0 kj5 t405 t410 t411 t414 t415 y416 true 0) = some r := by first | (rw [hy416]; with_reducible exact H) | (have H2_ := (Option.bind_some _ _).symm.trans H; rw [hy416]; with_reducible exact H2_) | (have H2_ := (Option.bind_some _ _).symm.trans H; with_reducible exact H2_) | with_reducible exact H | (rw [hy416]; exact H) | exact H
          have Ny416 := Aside0.mk hy416
          clear hy416
          have H' := Aside0.mk H
          clear H
          go_wp2_with (first | ((with_reducible refine gate_callee (f := 14) rfl ?_); refine goesL_ (some 35) rfl rfl Try.func14 (by kernel_rfl) rfl #[.slice Ao8 t405.length co8] rfl (by (try simp only [List.map_toArray, List.map_cons, List.map_nil]); first | done | rfl | (simp only [List.length_drop, List.length_take]; rfl)) ?_; (with_reducible refine (impl_PolyBack.calls kj5 _ _ t405 t410 t411 _ ?side1 ?side2 A13.out).mono ?_); (case side1 => repeat (first | exact (Kd.Q_reads' HO_3.out).2.2 | (with_reducible refine Kd.C_alloc ?_ _) | (with_reducible refine Kd.C_drewN ?_ _) | (with_reducible refine Kd.C_drew ?_))); (case side2 => exact (Kd.Q_reads' HO_3.out).2.1); rintro e w15 ⟨v412, rfl, ho0, hb⟩; refine ⟨_, rfl, ?_⟩; have n0_ := Aside0.mk (Kd.Q_elder' (by (with_reducible repeat (first | apply Kd.Q_alloc | apply Kd.Q_drewN | apply Kd.Q_drew)); exact HO_3.out) (Kd.R_base ho0) hb); have n1_ := Aside0.mk (Kd.R_lower (Kd.R_new' ho0 (Kd.Q_lt (by (with_reducible repeat (first | apply Kd.Q_alloc | apply Kd.Q_drewN | apply Kd.Q_drew)); exact HO_3.out))) (below_size (by repeat (first | (with_reducible first | exact HB.out | apply below_alloc | apply pw_below_drewN | apply below_drew1) | exact HB.out)))); have n2_ := Aside0.mk (below_step (by repeat (first | (with_reducible first | exact HB.out | apply below_alloc | apply pw_below_drewN | apply below_drew1) | exact HB.out)) hb); clear HO_3; clear HB; have HO_3 := n0_; have HO413 := n1_; have HB := n2_; clear n0_ n1_ n2_; (try clear hb); (try clear hb2); (try clear hk); (try clear hi); (try clear ho0)) | ((with_reducible refine gate_callee (f := 12) rfl ?_); refine goesL_ (some 40) rfl rfl Try.func12 (by kernel_rfl) rfl #[.slice Ao8 t405.length co8] rfl (by (try simp only [List.map_toArray, List.map_cons, List.map_nil]); first | done | rfl | (simp only [List.length_drop, List.length_take]; rfl)) ?_; (with_reducible refine (impl_PolyArea.calls _ _ t405 t414 t415 _ ?side1 ?side2 A14.out).mono ?_); (case side1 => repeat (first | exact (Kd.Q_reads' HO_3.out).2.2 | (with_reducible refine Kd.C_alloc ?_ _) | (with_reducible refine Kd.C_drewN ?_ _) | (with_reducible refine Kd.C_drew ?_))); (case side2 => exact (Kd.Q_reads' HO_3.out).2.1); rintro e w16 ⟨rfl, hb⟩; refine ⟨_, rfl, ?_⟩; have n0_ := Aside0.mk (Kd.Q_below (by (with_reducible repeat (first | apply Kd.Q_alloc | apply Kd.Q_drewN | apply Kd.Q_drew)); exact HO_3.out) hb); have n1_ := Aside0.mk (Kd.R_below (by (with_reducible repeat (first | apply Kd.R_alloc | apply Kd.R_drewN | apply Kd.R_drew)); exact HO413.out) hb); have n2_ := Aside0.mk (below_step (by repeat (first | (with_reducible first | exact HB.out | apply below_alloc | apply pw_below_drewN | apply below_drew1) | exact HB.out)) hb); clear HO_3; clear HO413; clear HB; have HO_3 := n0_; have HO413 := n1_; have HB := n2_; clear n0_ n1_ n2_; (try clear hb); (try clear hb2); (try clear hk); (try clear hi)) | ((with_reducible refine gate_dst (N := 43) rfl ?_); refine Kd.R_lit k32 _ 32 ?hg (N := 43) ?hd (xs := ([] : List (S32))) (inner := []) (ok := fun _ => True) (okp := fun _ => True) ?hr ?hp (fun _ hk => hk) trivial (Below.refl _ _) (Nat.le_refl _) (by simp) ?_; (case hd => rfl); (case hg => rfl); (case hr => first | (go_simp; done) | (go_simp; rfl)); (case hp => exact (Reps.none _ _)); intro v417 w17 ho18 hb hg_ hnew_; clear hg_ hnew_; (first | rw [← Ny416.out] at ho18 | (simp only [Int.reduceToNat] at ho18; rw [← Ny416.out] at ho18)); have n0_ := Aside0.mk (Kd.Q_elder' (by (with_reducible repeat (first | apply Kd.Q_alloc | apply Kd.Q_drewN | apply Kd.Q_drew)); exact HO_3.out) (Kd.R_base ho18) hb); have n1_ := Aside0.mk (Kd.R_elder' (by (with_reducible repeat (first | apply Kd.R_alloc | apply Kd.R_drewN | apply Kd.R_drew)); exact HO413.out) (Kd.R_base ho18) hb); have n2_ := Aside0.mk (Kd.R_lower (Kd.R_new' (Kd.R_new' ho18 (Kd.Q_lt (by (with_reducible repeat (first | apply Kd.Q_alloc | apply Kd.Q_drewN | apply Kd.Q_drew)); exact HO_3.out))) (Kd.R_lt (by (with_reducible repeat (first | apply Kd.R_alloc | apply Kd.R_drewN | apply Kd.R_drew)); exact HO413.out))) (below_size (by repeat (first | (with_reducible first | exact HB.out | apply below_alloc | apply pw_below_drewN | apply below_drew1) | exact HB.out)))); have n3_ := Aside0.mk (below_step (by repeat (first | (with_reducible first | exact HB.out | apply below_alloc | apply pw_below_drewN | apply below_drew1) | exact HB.out)) hb); clear HO_3; clear HO413; clear HB; have HO_3 := n0_; have HO413 := n1_; have HO418 := n2_; have HB := n3_; clear n0_ n1_ n2_ n3_; clear hb ho18))
          go_loopg [10, 11, 12] kj5 (fun kq v10 v11 v12 w' => ∃ (x10_2 : List (S32)) (x11_2 : Bool) (x12_2 : Int), v11 = .bool x11_2 ∧ v12 = .int .i64 x12_2 ∧ Aside0 (laws_FnParcel.l0 kq t405 t410 t411 t414 t415 x10_2 x11_2 x12_2 = some r) ∧ Aside0 (kq ≤ kj5) ∧ Aside0 (Kd.Q k32 32 w' w.heap.size (fun k_ => some k_ ≠ (v412 : Value).ownBlock ∧ some k_ ≠ (v10 : Value).ownBlock) (.slice Ao8 t405.length co8) t405) ∧ Aside0 (Kd.R k32 32 w' w.heap.size (fun k_ => some k_ ≠ ((.slice Ao8 t405.length co8) : Value).ownBlock ∧ some k_ ≠ (v10 : Value).ownBlock) v412 t410) ∧ Aside0 (Kd.R k32 32 w' w.heap.size (fun k_ => some k_ ≠ ((.slice Ao8 t405.length co8) : Value).ownBlock ∧ some k_ ≠ (v412 : Value).ownBlock) v10 x10_2) ∧ Aside0 (Below w.heap.size w w'))
          case atStart => exact ⟨(y416), (true), (0), (by first | rfl | (simp; done) | (simp [*]; done)), (by first | rfl | (simp; done) | (simp [*]; done)), H', ⟨Nat.le_refl _⟩, ⟨by (with_reducible repeat (first | apply Kd.Q_alloc | apply Kd.Q_drewN | apply Kd.Q_drew)); exact Kd.Q_mono HO_3.out (fun _ hk => ⟨hk.1.2, hk.2⟩)⟩, ⟨by (with_reducible repeat (first | apply Kd.R_alloc | apply Kd.R_drewN | apply Kd.R_drew)); exact Kd.R_mono HO413.out (fun _ hk => ⟨hk.1.2, hk.2⟩)⟩, ⟨by (with_reducible repeat (first | apply Kd.R_alloc | apply Kd.R_drewN | apply Kd.R_drew)); exact Kd.R_mono HO418.out (fun _ hk => ⟨hk.1.2, hk.2⟩)⟩, ⟨by repeat (first | (with_reducible first | exact HB.out | apply below_alloc | apply pw_below_drewN | apply below_drew1) | exact HB.out)⟩⟩
          case round =>
            clear H'
            try clear c1
            try clear c2
            try clear c2b0
            try clear c2b1
            try clear p2
            try clear c5
            try clear c11
            try clear c11b0
            try clear c11b1
            try clear c11b2
            try clear c12
            try clear c14
            try clear p2
            obtain ⟨x10_2, x11_2, x12_2, rfl, rfl, HA, HK2, HO_3, HO_6, HO_10, HB⟩ := hrel
            cases gk with
            | zero => exact absurd HA.out (by simp [laws_FnParcel.l0])
            | succ k2 =>
              have H := HA.out
              clear HA
              simp only [laws_FnParcel.l0] at H
              by_cases c19 : x12_2 < (t405.length : Int)
              · rw [if_pos c19] at H
                have c19b0 : decide (x12_2 < (t405.length : Int)) = true := decide_eq_true c19
                clear c19
                by_cases c20 : 0 ≤ x12_2
                · rw [if_pos c20] at H
                  have c20b0 : decide (0 ≤ x12_2) = true := decide_eq_true c20
                  clear c20
                  by_cases c21 : x11_2 = true
                  · subst c21
                    have H1 : ((impl_PointValid.f (wrap64 (((rd_T32 t405 x12_2).f0) + 3)) (wrap64 (((rd_T32 t405 x12_2).f1) + 3))).bind fun t422 => (if x10_2.length < 8796093022208 then (laws_FnParcel.l0 k2 t405 t410 t411 t414 t415 (x10_2 ++ [(⟨wrap64 (((rd_T32 t405 x12_2).f0) + 3), wrap64 (((rd_T32 t405 x12_2).f1) + 3)⟩ : S32)]) t422 (wrap64 (x12_2 + 1))) else (none))) = some r := by rw [if_pos rfl] at H; exact H
                    clear H
                    have H := H1
                    clear H1
                    replace H := Option.bind_eq_some_iff.mp H
                    obtain ⟨t422, A220, H⟩ := H
                    replace H : (if x10_2.length < 8796093022208 then (laws_FnParcel.l0 k2 t405 t410 t411 t414 t415 (x10_2 ++ [(⟨wrap64 (((rd_T32 t405 x12_2).f0) + 3), wrap64 (((rd_T32 t405 x12_2).f1) + 3)⟩ : S32)]) t422 (wrap64 (x12_2 + 1))) else (none)) = some r := H
                    have A22 := Aside0.mk A220
                    clear A220
                    by_cases c23 : x10_2.length < 8796093022208
                    · rw [if_pos c23] at H
                      have LMc23 := Aside0.mk c23
                      clear c23
                      obtain ⟨y423, hy423⟩ : ∃ y_ : List (S32), y_ = (x10_2 ++ [(⟨wrap64 (((rd_T32 t405 x12_2).f0) + 3), wrap64 (((rd_T32 t405 x12_2).f1) + 3)⟩ : S32)]) := ⟨_, rfl⟩
                      replace H : (laws_FnParcel.l0 k2 t405 t410 t411 t414 t415 y423 t422 (wrap64 (x12_2 + 1))) = some r := by first | (rw [hy423]; with_reducible exact H) | (have H2_ := (Option.bind_some _ _).symm.trans H; rw [hy423]; with_reducible exact H2_) | (have H2_ := (Option.bind_some _ _).symm.trans H; with_reducible exact H2_) | with_reducible exact H | (rw [hy423]; exact H) | exact H
                      have Ny423 := Aside0.mk hy423
                      clear hy423
                      have H' := Aside0.mk H
                      clear H
                      try go_wp2
                      have n0_ := Aside0.mk (Kd.Q_drew HO_3.out)
                      have n1_ := Aside0.mk (Kd.R_drew HO_6.out)
                      have n2_ := Aside0.mk (Kd.R_drew HO_10.out)
                      have n3_ := Aside0.mk (below_drew1 HB.out)
                      clear HO_3
                      clear HO_6
                      clear HO_10
                      clear HB
                      have HO_3 := n0_
                      have HO_6 := n1_
                      have HO_10 := n2_
                      have HB := n3_
                      clear n0_ n1_ n2_ n3_
                      have p419 : 0 ≤ (x12_2 : Int) := of_decide_eq_true (by first | (with_reducible assumption) | assumption)
                      have q419 : x12_2 < (t405.length : Int) := of_decide_eq_true (by first | (with_reducible assumption) | assumption)
                      obtain ⟨ad419, e419, hx419_0, hx419_1⟩ := at_T32 (Kd.Q_reads' HO_3.out).2.2 x12_2 p419 q419
                      cases e419
                      replace p419 := eq_true p419
                      replace q419 := eq_true q419
                      have p420 : 0 ≤ (x12_2 : Int) := of_decide_eq_true (by first | (with_reducible assumption) | assumption)
                      have q420 : x12_2 < (t405.length : Int) := of_decide_eq_true (by first | (with_reducible assumption) | assumption)
                      obtain ⟨ad420, e420, hx420_0, hx420_1⟩ := at_T32 (Kd.Q_reads' HO_3.out).2.2 x12_2 p420 q420
                      obtain rfl : ad419 = ad420 := (by injection e420)
                      replace p420 := eq_true p420
                      replace q420 := eq_true q420
                      refine start_ (n := 15) (S := fun w' => w'.cell? (ad419.add ((x12_2).toNat * 2)) = some (.int .i64 ((rd_T32 t405 x12_2).f0)) ∧ w'.cell? ⟨(ad419.add ((x12_2).toNat * 2)).block, (ad419.add ((x12_2).toNat * 2)).off + 1, none⟩ = some (.int .i64 ((rd_T32 t405 x12_2).f1)) ∧ w'.cell? (ad419.add ((x12_2).toNat * 2)) = some (.int .i64 ((rd_T32 t405 x12_2).f0)) ∧ w'.cell? ⟨(ad419.add ((x12_2).toNat * 2)).block, (ad419.add ((x12_2).toNat * 2)).off + 1, none⟩ = some (.int .i64 ((rd_T32 t405 x12_2).f1))) (ds := []) #[false, false, false, false, false, false, false, false, false, false, false, false, false, false, false] (by kernel_rfl) rfl rfl ⟨hx419_0, hx419_1, hx420_0, hx420_1⟩ (fun hHeld => ?_); refine with_tabW laws_FnParcel.tab15 laws_FnParcel.bits15 (fun HT_ HW_ => ?_)
                      generalize wr.drew = w24 at HO_3 HO_6 HO_10 HB hx419_0 hx419_1 hx420_0 hx420_1 hHeld ⊢
                      refine pure_ (i := 0) (N := some 50) (v := ?_) (a' := ?_) #[true, false, false, false, false, false, false, false, false, false, false, false, false, false, false] rfl rfl (any_of HT_.out (by kernel_rfl)) (fun _ _ _ h => h) (Or.inl ⟨by rfl, ?_⟩) ?_ ?_
                      rotate_left
                      · intro w'
                        go_simp
                        with_reducible rfl
                      rotate_left
                      · simp only [Act.put, List.setIfInBounds_toArray, List.set_cons_zero, List.set_cons_succ, i64_w, i32_w]
                        rfl
                      refine pure_ (i := 1) (N := some 51) (v := ?_) (a' := ?_) #[true, true, false, false, false, false, false, false, false, false, false, false, false, false, false] rfl rfl (any_of HT_.out (by kernel_rfl)) (fun _ _ _ h => h) (Or.inl ⟨by rfl, ?_⟩) ?_ ?_
                      rotate_left
                      · intro w'
                        go_simp
                        with_reducible rfl
                      rotate_left
                      · simp only [Act.put, List.setIfInBounds_toArray, List.set_cons_zero, List.set_cons_succ, i64_w, i32_w]
                        rfl
                      refine pure_ (i := 2) (N := some 52) (v := ?_) (a' := ?_) #[true, true, true, false, false, false, false, false, false, false, false, false, false, false, false] rfl rfl (any_of HT_.out (by kernel_rfl)) (fun _ _ _ h => h) (Or.inl ⟨by rfl, ?_⟩) ?_ ?_
                      rotate_left
                      · intro w'
                        go_simp
                        with_reducible rfl
                      rotate_left
                      · simp only [Act.put, List.setIfInBounds_toArray, List.set_cons_zero, List.set_cons_succ, i64_w, i32_w]
                        rfl
                      refine pure_ (i := 3) (N := some 53) (v := ?_) (a' := ?_) #[true, true, true, true, false, false, false, false, false, false, false, false, false, false, false] rfl rfl (any_of HT_.out (by kernel_rfl)) (fun _ _ _ h => h) (Or.inl ⟨by rfl, ?_⟩) ?_ ?_
                      rotate_left
                      · intro w'
                        go_simp
                        with_reducible rfl
                      rotate_left
                      · simp only [Act.put, List.setIfInBounds_toArray, List.set_cons_zero, List.set_cons_succ, i64_w, i32_w]
                        rfl
                      refine pure_ (i := 6) (N := some 56) (v := ?_) (a' := ?_) #[true, true, true, true, false, false, true, false, false, false, false, false, false, false, false] rfl rfl (any_of HT_.out (by kernel_rfl)) (fun _ _ _ h => h) (Or.inl ⟨by rfl, ?_⟩) ?_ ?_
                      rotate_left
                      · intro w'
                        go_simp
                        with_reducible rfl
                      rotate_left
                      · simp only [Act.put, List.setIfInBounds_toArray, List.set_cons_zero, List.set_cons_succ, i64_w, i32_w]
                        rfl
                      refine pure_ (i := 7) (N := some 57) (v := ?_) (a' := ?_) #[true, true, true, true, false, false, true, true, false, false, false, false, false, false, false] rfl rfl (any_of HT_.out (by kernel_rfl)) (fun _ _ _ h => h) (Or.inl ⟨by rfl, ?_⟩) ?_ ?_
                      rotate_left
                      · intro w'
                        go_simp
                        with_reducible rfl
                      rotate_left
                      · simp only [Act.put, List.setIfInBounds_toArray, List.set_cons_zero, List.set_cons_succ, i64_w, i32_w]
                        rfl
                      refine pure_ (i := 8) (N := some 58) (v := ?_) (a' := ?_) #[true, true, true, true, false, false, true, true, true, false, false, false, false, false, false] rfl rfl (any_of HT_.out (by kernel_rfl)) (fun _ _ _ h => h) (Or.inl ⟨by rfl, ?_⟩) ?_ ?_
                      rotate_left
                      · intro w'
                        go_simp
                        with_reducible rfl
                      rotate_left
                      · simp only [Act.put, List.setIfInBounds_toArray, List.set_cons_zero, List.set_cons_succ, i64_w, i32_w]
                        rfl
                      refine pure_ (i := 9) (N := some 59) (v := ?_) (a' := ?_) #[true, true, true, true, false, false, true, true, true, true, false, false, false, false, false] rfl rfl (any_of HT_.out (by kernel_rfl)) (fun _ _ _ h => h) (Or.inl ⟨by rfl, ?_⟩) ?_ ?_
                      rotate_left
                      · intro w'
                        go_simp
                        with_reducible rfl
                      rotate_left
                      · simp only [Act.put, List.setIfInBounds_toArray, List.set_cons_zero, List.set_cons_succ, i64_w, i32_w]
                        rfl
                      refine take_ (i := 4) (N := some 54) (v := ?_) (a' := ?_) #[true, true, true, true, true, false, true, true, true, true, false, false, false, false, false] rfl rfl (take_ofW HT_.out HW_.out (by kernel_rfl)) (fun _ _ _ h => h) (Or.inl ⟨by rfl, ?_⟩) hHeld ?_ ?_
                      rotate_left
                      · rintro w' ⟨s0, s1, s2, s3⟩
                        go_simp
                        with_reducible rfl
                      rotate_left
                      · simp only [Act.put, List.setIfInBounds_toArray, List.set_cons_zero, List.set_cons_succ, i64_w, i32_w]
                        rfl
                      refine pure_ (i := 5) (N := some 55) (v := ?_) (a' := ?_) #[true, true, true, true, true, true, true, true, true, true, false, false, false, false, false] rfl rfl (any_of HT_.out (by kernel_rfl)) (fun _ _ _ h => h) (Or.inl ⟨by rfl, ?_⟩) ?_ ?_
                      rotate_left
                      · intro w'
                        go_simp
                        with_reducible rfl
                      rotate_left
                      · simp only [Act.put, List.setIfInBounds_toArray, List.set_cons_zero, List.set_cons_succ, i64_w, i32_w]
                        rfl
                      refine take_ (i := 10) (N := some 60) (v := ?_) (a' := ?_) #[true, true, true, true, true, true, true, true, true, true, true, false, false, false, false] rfl rfl (take_ofW HT_.out HW_.out (by kernel_rfl)) (fun _ _ _ h => h) (Or.inl ⟨by rfl, ?_⟩) hHeld ?_ ?_
                      rotate_left
                      · rintro w' ⟨s0, s1, s2, s3⟩
                        go_simp
                        with_reducible rfl
                      rotate_left
                      · simp only [Act.put, List.setIfInBounds_toArray, List.set_cons_zero, List.set_cons_succ, i64_w, i32_w]
                        rfl
                      refine pure_ (i := 11) (N := some 61) (v := ?_) (a' := ?_) #[true, true, true, true, true, true, true, true, true, true, true, true, false, false, false] rfl rfl (any_of HT_.out (by kernel_rfl)) (fun _ _ _ h => h) (Or.inl ⟨by rfl, ?_⟩) ?_ ?_
                      rotate_left
                      · intro w'
                        go_simp
                        with_reducible rfl
                      rotate_left
                      · simp only [Act.put, List.setIfInBounds_toArray, List.set_cons_zero, List.set_cons_succ, i64_w, i32_w]
                        rfl
                      refine pure_ (i := 12) (N := some 62) (v := ?_) (a' := ?_) #[true, true, true, true, true, true, true, true, true, true, true, true, true, false, false] rfl rfl (any_of HT_.out (by kernel_rfl)) (fun _ _ _ h => h) (Or.inl ⟨by rfl, ?_⟩) ?_ ?_
                      rotate_left
                      · intro w'
                        go_simp
                        with_reducible rfl
                      rotate_left
                      · simp only [Act.put, List.setIfInBounds_toArray, List.set_cons_zero, List.set_cons_succ, i64_w, i32_w]
                        rfl
                      refine one_ (i := 13) (N := some 13) #[true, true, true, true, true, true, true, true, true, true, true, true, true, true, false] rfl rfl (one_of HT_.out (by kernel_rfl)) (by decide) (fun K hK => ?_)
                      refine box_step ?hg (N := 13) ?hd (cs := #[.int .i64 0, .int .i64 0]) (t := 32) ?hr ?_; (case hd => rfl); (case hg => rfl); (case hr => first | (go_simp; done) | (go_simp; rfl))
                      intro gb421 hg w25 hbox hb
                      have HS0_ := (hb.cell (World.block_lt_of_cell? _ _ (hHeld.1))).trans (hHeld.1)
                      have HS1_ := (hb.cell (World.block_lt_of_cell? _ _ (hHeld.2.1))).trans (hHeld.2.1)
                      have HS2_ := (hb.cell (World.block_lt_of_cell? _ _ (hHeld.2.2.1))).trans (hHeld.2.2.1)
                      have HS3_ := (hb.cell (World.block_lt_of_cell? _ _ (hHeld.2.2.2))).trans (hHeld.2.2.2)
                      have n0_ := Aside0.mk (Kd.Q_below (Kd.Q_elderB (by (with_reducible repeat (first | apply Kd.Q_alloc | apply Kd.Q_drewN | apply Kd.Q_drew)); exact HO_3.out) gb421 (Nat.le_of_eq hg.symm)) hb)
                      have n1_ := Aside0.mk (Kd.R_below (Kd.R_elderB (by (with_reducible repeat (first | apply Kd.R_alloc | apply Kd.R_drewN | apply Kd.R_drew)); exact HO_6.out) gb421 (Nat.le_of_eq hg.symm)) hb)
                      have n2_ := Aside0.mk (Kd.R_below (Kd.R_elderB (by (with_reducible repeat (first | apply Kd.R_alloc | apply Kd.R_drewN | apply Kd.R_drew)); exact HO_10.out) gb421 (Nat.le_of_eq hg.symm)) hb)
                      have n3_ := Aside0.mk (below_step (by repeat (first | (with_reducible first | exact HB.out | apply below_alloc | apply pw_below_drewN | apply below_drew1) | exact HB.out)) hb)
                      have n4_ := Aside0.mk (hbox)
                      have n5_ := Aside0.mk ((by rw [hg]; exact (below_size (by repeat (first | (with_reducible first | exact HB.out | apply below_alloc | apply pw_below_drewN | apply below_drew1) | exact HB.out))) : w.heap.size ≤ gb421))
                      have n6_ := Aside0.mk ((by rw [hg]; exact (below_size (by repeat (first | (with_reducible first | exact HB.out | apply below_alloc | apply pw_below_drewN | apply below_drew1) | exact HB.out))) : w.heap.size ≤ gb421))
                      clear HO_3
                      clear HO_6
                      clear HO_10
                      clear HB
                      have HO_3 := n0_
                      have HO_6 := n1_
                      have HO_10 := n2_
                      have HB := n3_
                      have BK421 := n4_
                      have GW421 := n5_
                      have GE421 := n6_
                      clear n0_ n1_ n2_ n3_ n4_ n5_ n6_
                      clear hb hbox hg
                      refine hK.out _ _ ⟨HS0_, HS1_, HS2_, HS3_⟩ (fun hHeld => ?_)
                      clear hK K
                      refine norm_ (a' := ?_) ?_ ?_
                      rotate_left
                      · show Act.put _ (some 13) _ = _
                        simp only [Act.put, List.setIfInBounds_toArray, List.set_cons_zero, List.set_cons_succ, i64_w, i32_w]
                        rfl
                      refine one_ (i := 14) (N := none) #[true, true, true, true, true, true, true, true, true, true, true, true, true, true, true] rfl rfl (one_of HT_.out (by kernel_rfl)) (by decide) (fun K hK => ?_)
                      have hs26 : w25.cell? ⟨gb421, 0, none⟩ = some (.int .i64 0) := (blk_cell BK421.out 0).trans rfl
                      have hfs26 := blk_frozen BK421.out 0
                      have hs27 : w25.cell? ⟨gb421, 1, none⟩ = some (.int .i64 0) := (blk_cell BK421.out 1).trans rfl
                      have hfs27 := blk_frozen BK421.out 1
                      refine skip_ (w1 := ?_) (by rfl) rfl ?_ ?_
                      rotate_left
                      · go_simp
                        rfl
                      refine hK.out _ _ ⟨((cell_far (p := ⟨gb421, _, none⟩) (by first | exact Kd.own_blk (Kd.Q_away HO_3.out (fun _ hk => hk.2)) | (rw [add_block]; exact Kd.own_blk (Kd.Q_away HO_3.out (fun _ hk => hk.2))) | (show (Addr.add _ _).block ≠ _; rw [add_block]; exact Kd.own_blk (Kd.Q_away HO_3.out (fun _ hk => hk.2))) | (dsimp only; exact Kd.own_blk (Kd.Q_away HO_3.out (fun _ hk => hk.2)))) _).trans (((cell_far (p := ⟨gb421, _, none⟩) (by first | exact Kd.own_blk (Kd.Q_away HO_3.out (fun _ hk => hk.2)) | (rw [add_block]; exact Kd.own_blk (Kd.Q_away HO_3.out (fun _ hk => hk.2))) | (show (Addr.add _ _).block ≠ _; rw [add_block]; exact Kd.own_blk (Kd.Q_away HO_3.out (fun _ hk => hk.2))) | (dsimp only; exact Kd.own_blk (Kd.Q_away HO_3.out (fun _ hk => hk.2)))) _).trans (hHeld.1)))), ((cell_far (p := ⟨gb421, _, none⟩) (by first | exact Kd.own_blk (Kd.Q_away HO_3.out (fun _ hk => hk.2)) | (rw [add_block]; exact Kd.own_blk (Kd.Q_away HO_3.out (fun _ hk => hk.2))) | (show (Addr.add _ _).block ≠ _; rw [add_block]; exact Kd.own_blk (Kd.Q_away HO_3.out (fun _ hk => hk.2))) | (dsimp only; exact Kd.own_blk (Kd.Q_away HO_3.out (fun _ hk => hk.2)))) _).trans (((cell_far (p := ⟨gb421, _, none⟩) (by first | exact Kd.own_blk (Kd.Q_away HO_3.out (fun _ hk => hk.2)) | (rw [add_block]; exact Kd.own_blk (Kd.Q_away HO_3.out (fun _ hk => hk.2))) | (show (Addr.add _ _).block ≠ _; rw [add_block]; exact Kd.own_blk (Kd.Q_away HO_3.out (fun _ hk => hk.2))) | (dsimp only; exact Kd.own_blk (Kd.Q_away HO_3.out (fun _ hk => hk.2)))) _).trans (hHeld.2.1)))), ((cell_far (p := ⟨gb421, _, none⟩) (by first | exact Kd.own_blk (Kd.Q_away HO_3.out (fun _ hk => hk.2)) | (rw [add_block]; exact Kd.own_blk (Kd.Q_away HO_3.out (fun _ hk => hk.2))) | (show (Addr.add _ _).block ≠ _; rw [add_block]; exact Kd.own_blk (Kd.Q_away HO_3.out (fun _ hk => hk.2))) | (dsimp only; exact Kd.own_blk (Kd.Q_away HO_3.out (fun _ hk => hk.2)))) _).trans (((cell_far (p := ⟨gb421, _, none⟩) (by first | exact Kd.own_blk (Kd.Q_away HO_3.out (fun _ hk => hk.2)) | (rw [add_block]; exact Kd.own_blk (Kd.Q_away HO_3.out (fun _ hk => hk.2))) | (show (Addr.add _ _).block ≠ _; rw [add_block]; exact Kd.own_blk (Kd.Q_away HO_3.out (fun _ hk => hk.2))) | (dsimp only; exact Kd.own_blk (Kd.Q_away HO_3.out (fun _ hk => hk.2)))) _).trans (hHeld.2.2.1)))), ((cell_far (p := ⟨gb421, _, none⟩) (by first | exact Kd.own_blk (Kd.Q_away HO_3.out (fun _ hk => hk.2)) | (rw [add_block]; exact Kd.own_blk (Kd.Q_away HO_3.out (fun _ hk => hk.2))) | (show (Addr.add _ _).block ≠ _; rw [add_block]; exact Kd.own_blk (Kd.Q_away HO_3.out (fun _ hk => hk.2))) | (dsimp only; exact Kd.own_blk (Kd.Q_away HO_3.out (fun _ hk => hk.2)))) _).trans (((cell_far (p := ⟨gb421, _, none⟩) (by first | exact Kd.own_blk (Kd.Q_away HO_3.out (fun _ hk => hk.2)) | (rw [add_block]; exact Kd.own_blk (Kd.Q_away HO_3.out (fun _ hk => hk.2))) | (show (Addr.add _ _).block ≠ _; rw [add_block]; exact Kd.own_blk (Kd.Q_away HO_3.out (fun _ hk => hk.2))) | (dsimp only; exact Kd.own_blk (Kd.Q_away HO_3.out (fun _ hk => hk.2)))) _).trans (hHeld.2.2.2))))⟩ (fun hHeld => ?_)
                      clear hK K
                      refine done_ (done_of HT_.out (by kernel_rfl)) ?_
                      have hcz28_0 : w25.cell? ⟨gb421, 0, none⟩ = some (.int .i64 0) := (blk_cell BK421.out 0).trans rfl
                      have hcz28_1 : w25.cell? ⟨gb421, 1, none⟩ = some (.int .i64 0) := (blk_cell BK421.out 1).trans rfl
                      have hfz28_0 := blk_frozen BK421.out 0
                      have hfz28_1 := blk_frozen BK421.out 1
                      try go_wp2_with (first | (go_at_call 23; (with_reducible refine (impl_PointValid.calls (wrap64 (((rd_T32 t405 x12_2).f0) + 3)) (wrap64 (((rd_T32 t405 x12_2).f1) + 3)) t422 _ A22.out).mono ?_); rintro e w29 ⟨rfl, hb⟩; have n0_ := Aside0.mk (Kd.Q_below (by (with_reducible repeat (first | apply Kd.Q_alloc | apply Kd.Q_drewN | apply Kd.Q_drew)); exact (Kd.Q_mono (Kd.Q_far (p := ⟨gb421, 1, none⟩) (Kd.Q_far (p := ⟨gb421, 0, none⟩) (Kd.Q_mono HO_3.out (fun k_ hk => (⟨hk, hk.2⟩ : _ ∧ k_ ≠ gb421))) (fun _ hk => hk.2) (.int .i64 (wrap64 (((rd_T32 t405 x12_2).f0) + 3)))) (fun _ hk => hk.2) (.int .i64 (wrap64 (((rd_T32 t405 x12_2).f1) + 3)))) (fun _ h_ => h_.1))) hb); have n1_ := Aside0.mk (Kd.R_below (by (with_reducible repeat (first | apply Kd.R_alloc | apply Kd.R_drewN | apply Kd.R_drew)); exact (Kd.R_mono (Kd.R_far (p := ⟨gb421, 1, none⟩) (Kd.R_far (p := ⟨gb421, 0, none⟩) (Kd.R_mono HO_6.out (fun k_ hk => (⟨hk, hk.2⟩ : _ ∧ k_ ≠ gb421))) (fun _ hk => hk.2) (.int .i64 (wrap64 (((rd_T32 t405 x12_2).f0) + 3)))) (fun _ hk => hk.2) (.int .i64 (wrap64 (((rd_T32 t405 x12_2).f1) + 3)))) (fun _ h_ => h_.1))) hb); have n2_ := Aside0.mk (Kd.R_below (by (with_reducible repeat (first | apply Kd.R_alloc | apply Kd.R_drewN | apply Kd.R_drew)); exact (Kd.R_mono (Kd.R_far (p := ⟨gb421, 1, none⟩) (Kd.R_far (p := ⟨gb421, 0, none⟩) (Kd.R_mono HO_10.out (fun k_ hk => (⟨hk, hk.2⟩ : _ ∧ k_ ≠ gb421))) (fun _ hk => hk.2) (.int .i64 (wrap64 (((rd_T32 t405 x12_2).f0) + 3)))) (fun _ hk => hk.2) (.int .i64 (wrap64 (((rd_T32 t405 x12_2).f1) + 3)))) (fun _ h_ => h_.1))) hb); have n3_ := Aside0.mk (blk_below (g := gb421) (o := .cells #[.int .i64 (wrap64 (((rd_T32 t405 x12_2).f0) + 3)), .int .i64 (wrap64 (((rd_T32 t405 x12_2).f1) + 3))] 32 (0, 0)) (by (with_reducible repeat (first | refine blk_drewN ?_ _ | refine blk_drew ?_ | refine blk_alloc ?_ _)); refine blk_put (cs := #[.int .i64 (wrap64 (((rd_T32 t405 x12_2).f0) + 3)), .int .i64 0]) ?_ 1 _ rfl; (with_reducible repeat (first | refine blk_drewN ?_ _ | refine blk_drew ?_ | refine blk_alloc ?_ _)); refine blk_put (cs := #[.int .i64 0, .int .i64 0]) ?_ 0 _ rfl; (with_reducible repeat (first | refine blk_drewN ?_ _ | refine blk_drew ?_ | refine blk_alloc ?_ _)); exact BK421.out) hb); have n4_ := Aside0.mk (below_step (by repeat (first | (with_reducible first | exact HB.out | apply below_alloc | apply pw_below_drewN | apply below_drew1 | refine below_set ?_ GE421.out) | exact HB.out)) hb); clear HO_3; clear HO_6; clear HO_10; clear BK421; clear HB; have HO_3 := n0_; have HO_6 := n1_; have HO_10 := n2_; have BK421 := n3_; have HB := n4_; clear n0_ n1_ n2_ n3_ n4_; (try clear hb); (try clear hb2); (try clear hk); (try clear hi); have hcz30_0 : w29.cell? ⟨gb421, 0, none⟩ = some (.int .i64 (wrap64 (((rd_T32 t405 x12_2).f0) + 3))) := (blk_cell BK421.out 0).trans rfl; have hcz30_1 : w29.cell? ⟨gb421, 1, none⟩ = some (.int .i64 (wrap64 (((rd_T32 t405 x12_2).f1) + 3))) := (blk_cell BK421.out 1).trans rfl; have hfz30_0 := blk_frozen BK421.out 0; have hfz30_1 := blk_frozen BK421.out 1) | ((with_reducible refine gate_builtin (b := .append) (xs := #[.tmp 68, .tmp 70]) rfl ?_); at_builtin; refine Kd.R_append k32 (w0 := w) w.heap.size rfl (.tmp 68) (.tmp 70) 23 32 (.agg #[(.int .i64 0), (.int .i64 0)]) 16 rfl Try.underlying23 info32 rfl (by decide) (by omega) u10 x10_2 (⟨wrap64 (((rd_T32 t405 x12_2).f0) + 3), wrap64 (((rd_T32 t405 x12_2).f1) + 3)⟩ : S32) [.int .i64 (wrap64 (((rd_T32 t405 x12_2).f0) + 3)), .int .i64 (wrap64 (((rd_T32 t405 x12_2).f1) + 3))] (fun k_ => some k_ ≠ (.slice (some ad419) t405.length co8 : Value).ownBlock ∧ some k_ ≠ (v412 : Value).ownBlock ∧ k_ ≠ gb421) (fun _ => False) rfl rfl ?aP (fun _ hk => hk.elim) ?aF ?aO ?aB ?aS ?aL ?_; (case aP => exact k32_mkM _ _ _ (⟨wrap64 (((rd_T32 t405 x12_2).f0) + 3), wrap64 (((rd_T32 t405 x12_2).f1) + 3)⟩ : S32)); (case aB => exact (by repeat (first | (with_reducible first | exact HB.out | apply below_alloc | apply pw_below_drewN | apply below_drew1 | refine below_set ?_ GE421.out) | exact HB.out))); (case aF => exact (fun k_ hk => ⟨Kd.fresh' (Kd.Q_lt (by (with_reducible repeat (first | apply Kd.Q_alloc | apply Kd.Q_drewN | apply Kd.Q_drew)); exact HO_3.out)) k_ hk, Kd.fresh' (Kd.R_lt (by (with_reducible repeat (first | apply Kd.R_alloc | apply Kd.R_drewN | apply Kd.R_drew)); exact HO_6.out)) k_ hk, Kd.freshB (g := gb421) (o := .cells #[.int .i64 (wrap64 (((rd_T32 t405 x12_2).f0) + 3)), .int .i64 (wrap64 (((rd_T32 t405 x12_2).f1) + 3))] 32 (0, 0)) (by (with_reducible repeat (first | refine blk_drewN ?_ _ | refine blk_drew ?_ | refine blk_alloc ?_ _)); exact BK421.out) k_ hk⟩)); (case aO => exact (by (with_reducible repeat (first | apply Kd.R_alloc | apply Kd.R_drewN | apply Kd.R_drew)); exact Kd.R_mono HO_10.out (fun _ hk => ⟨hk.1.1, ⟨hk.1.2, hk.2⟩⟩))); (case aS => exact (below_size (by repeat (first | (with_reducible first | exact HB.out | apply below_alloc | apply pw_below_drewN | apply below_drew1 | refine below_set ?_ GE421.out) | exact HB.out)))); (case aL => have := LMc23.out; omega); intro v424 w31 ho hb hg hat; rw [← Ny423.out] at ho; have n0_ := Aside0.mk (Kd.Q_after (ok := (fun k_ => some k_ ≠ (v412 : Value).ownBlock ∧ k_ ≠ gb421)) (by (with_reducible repeat (first | apply Kd.Q_alloc | apply Kd.Q_drewN | apply Kd.Q_drew)); exact Kd.Q_mono HO_3.out (fun _ hk => ⟨⟨hk.1.1, hk.2⟩, hk.1.2⟩)) hg hat); have n1_ := Aside0.mk (Kd.R_after (ok := (fun k_ => some k_ ≠ (.slice (some ad419) t405.length co8 : Value).ownBlock ∧ k_ ≠ gb421)) (by (with_reducible repeat (first | apply Kd.R_alloc | apply Kd.R_drewN | apply Kd.R_drew)); exact Kd.R_mono HO_6.out (fun _ hk => ⟨⟨hk.1.1, hk.2⟩, hk.1.2⟩)) hg hat); have n2_ := Aside0.mk (blk_grown (g := gb421) (o := .cells #[.int .i64 (wrap64 (((rd_T32 t405 x12_2).f0) + 3)), .int .i64 (wrap64 (((rd_T32 t405 x12_2).f1) + 3))] 32 (0, 0)) (by (with_reducible repeat (first | refine blk_drewN ?_ _ | refine blk_drew ?_ | refine blk_alloc ?_ _)); exact BK421.out) hg (Kd.R_away HO_10.out (fun _ hk => hk.2))); have n3_ := Aside0.mk (hb); have n4_ := Aside0.mk (ho); clear HO_3; clear HO_6; clear BK421; clear HB; clear HO_10; have HO_3 := n0_; have HO_6 := n1_; have BK421 := n2_; have HB := n3_; have HO425 := n4_; clear n0_ n1_ n2_ n3_ n4_; clear ho hb hg hat))
                      go_roundg k2
                      case measure => have := HJ5.out; have := HK2.out; omega
                      case rel => exact ⟨(y423), (t422), (wrap64 (x12_2 + 1)), (by first | rfl | (simp; done) | (simp [*]; done)), (by first | rfl | (simp; done) | (simp [*]; done)), H', ⟨by have := HJ5.out; have := HK2.out; omega⟩, ⟨by (with_reducible repeat (first | apply Kd.Q_alloc | apply Kd.Q_drewN | apply Kd.Q_drew)); exact Kd.Q_mono HO_3.out (fun _ hk => ⟨hk.1.1, hk.2⟩)⟩, ⟨by (with_reducible repeat (first | apply Kd.R_alloc | apply Kd.R_drewN | apply Kd.R_drew)); exact Kd.R_mono HO_6.out (fun _ hk => ⟨hk.1.1, hk.2⟩)⟩, ⟨by (with_reducible repeat (first | apply Kd.R_alloc | apply Kd.R_drewN | apply Kd.R_drew)); exact Kd.R_mono HO425.out (fun _ hk => ⟨hk.1, hk.2.1⟩)⟩, ⟨by repeat (first | (with_reducible first | exact HB.out | apply below_alloc | apply pw_below_drewN | apply below_drew1 | refine below_set ?_ GE421.out) | exact HB.out)⟩⟩
                    · rw [if_neg c23] at H
                      exact absurd H (by simp)
                  · replace c21 := Bool.eq_false_iff.mpr c21
                    subst c21
                    have H1 : (if x10_2.length < 8796093022208 then (laws_FnParcel.l0 k2 t405 t410 t411 t414 t415 (x10_2 ++ [(⟨wrap64 (((rd_T32 t405 x12_2).f0) + 3), wrap64 (((rd_T32 t405 x12_2).f1) + 3)⟩ : S32)]) false (wrap64 (x12_2 + 1))) else (none)) = some r := by rw [if_neg (show ¬ (false = true) by decide)] at H; exact H
                    clear H
                    have H := H1
                    clear H1
                    by_cases c32 : x10_2.length < 8796093022208
                    · rw [if_pos c32] at H
                      have LMc32 := Aside0.mk c32
                      clear c32
                      obtain ⟨y426, hy426⟩ : ∃ y_ : List (S32), y_ = (x10_2 ++ [(⟨wrap64 (((rd_T32 t405 x12_2).f0) + 3), wrap64 (((rd_T32 t405 x12_2).f1) + 3)⟩ : S32)]) := ⟨_, rfl⟩
                      replace H : (laws_FnParcel.l0 k2 t405 t410 t411 t414 t415 y426 false (wrap64 (x12_2 + 1))) = some r := by first | (rw [hy426]; with_reducible exact H) | (have H2_ := (Option.bind_some _ _).symm.trans H; rw [hy426]; with_reducible exact H2_) | (have H2_ := (Option.bind_some _ _).symm.trans H; with_reducible exact H2_) | with_reducible exact H | (rw [hy426]; exact H) | exact H
                      have Ny426 := Aside0.mk hy426
                      clear hy426
                      have H' := Aside0.mk H
                      clear H
                      try go_wp2
                      have n0_ := Aside0.mk (Kd.Q_drew HO_3.out)
                      have n1_ := Aside0.mk (Kd.R_drew HO_6.out)
                      have n2_ := Aside0.mk (Kd.R_drew HO_10.out)
                      have n3_ := Aside0.mk (below_drew1 HB.out)
                      clear HO_3
                      clear HO_6
                      clear HO_10
                      clear HB
                      have HO_3 := n0_
                      have HO_6 := n1_
                      have HO_10 := n2_
                      have HB := n3_
                      clear n0_ n1_ n2_ n3_
                      have p419 : 0 ≤ (x12_2 : Int) := of_decide_eq_true (by first | (with_reducible assumption) | assumption)
                      have q419 : x12_2 < (t405.length : Int) := of_decide_eq_true (by first | (with_reducible assumption) | assumption)
                      obtain ⟨ad419, e419, hx419_0, hx419_1⟩ := at_T32 (Kd.Q_reads' HO_3.out).2.2 x12_2 p419 q419
                      cases e419
                      replace p419 := eq_true p419
                      replace q419 := eq_true q419
                      have p420 : 0 ≤ (x12_2 : Int) := of_decide_eq_true (by first | (with_reducible assumption) | assumption)
                      have q420 : x12_2 < (t405.length : Int) := of_decide_eq_true (by first | (with_reducible assumption) | assumption)
                      obtain ⟨ad420, e420, hx420_0, hx420_1⟩ := at_T32 (Kd.Q_reads' HO_3.out).2.2 x12_2 p420 q420
                      obtain rfl : ad419 = ad420 := (by injection e420)
                      replace p420 := eq_true p420
                      replace q420 := eq_true q420
                      refine start_ (n := 15) (S := fun w' => w'.cell? (ad419.add ((x12_2).toNat * 2)) = some (.int .i64 ((rd_T32 t405 x12_2).f0)) ∧ w'.cell? ⟨(ad419.add ((x12_2).toNat * 2)).block, (ad419.add ((x12_2).toNat * 2)).off + 1, none⟩ = some (.int .i64 ((rd_T32 t405 x12_2).f1)) ∧ w'.cell? (ad419.add ((x12_2).toNat * 2)) = some (.int .i64 ((rd_T32 t405 x12_2).f0)) ∧ w'.cell? ⟨(ad419.add ((x12_2).toNat * 2)).block, (ad419.add ((x12_2).toNat * 2)).off + 1, none⟩ = some (.int .i64 ((rd_T32 t405 x12_2).f1))) (ds := []) #[false, false, false, false, false, false, false, false, false, false, false, false, false, false, false] (by kernel_rfl) rfl rfl ⟨hx419_0, hx419_1, hx420_0, hx420_1⟩ (fun hHeld => ?_); refine with_tabW laws_FnParcel.tab15 laws_FnParcel.bits15 (fun HT_ HW_ => ?_)
                      generalize wr.drew = w33 at HO_3 HO_6 HO_10 HB hx419_0 hx419_1 hx420_0 hx420_1 hHeld ⊢
                      refine pure_ (i := 0) (N := some 50) (v := ?_) (a' := ?_) #[true, false, false, false, false, false, false, false, false, false, false, false, false, false, false] rfl rfl (any_of HT_.out (by kernel_rfl)) (fun _ _ _ h => h) (Or.inl ⟨by rfl, ?_⟩) ?_ ?_
                      rotate_left
                      · intro w'
                        go_simp
                        with_reducible rfl
                      rotate_left
                      · simp only [Act.put, List.setIfInBounds_toArray, List.set_cons_zero, List.set_cons_succ, i64_w, i32_w]
                        rfl
                      refine pure_ (i := 1) (N := some 51) (v := ?_) (a' := ?_) #[true, true, false, false, false, false, false, false, false, false, false, false, false, false, false] rfl rfl (any_of HT_.out (by kernel_rfl)) (fun _ _ _ h => h) (Or.inl ⟨by rfl, ?_⟩) ?_ ?_
                      rotate_left
                      · intro w'
                        go_simp
                        with_reducible rfl
                      rotate_left
                      · simp only [Act.put, List.setIfInBounds_toArray, List.set_cons_zero, List.set_cons_succ, i64_w, i32_w]
                        rfl
                      refine pure_ (i := 2) (N := some 52) (v := ?_) (a' := ?_) #[true, true, true, false, false, false, false, false, false, false, false, false, false, false, false] rfl rfl (any_of HT_.out (by kernel_rfl)) (fun _ _ _ h => h) (Or.inl ⟨by rfl, ?_⟩) ?_ ?_
                      rotate_left
                      · intro w'
                        go_simp
                        with_reducible rfl
                      rotate_left
                      · simp only [Act.put, List.setIfInBounds_toArray, List.set_cons_zero, List.set_cons_succ, i64_w, i32_w]
                        rfl
                      refine pure_ (i := 3) (N := some 53) (v := ?_) (a' := ?_) #[true, true, true, true, false, false, false, false, false, false, false, false, false, false, false] rfl rfl (any_of HT_.out (by kernel_rfl)) (fun _ _ _ h => h) (Or.inl ⟨by rfl, ?_⟩) ?_ ?_
                      rotate_left
                      · intro w'
                        go_simp
                        with_reducible rfl
                      rotate_left
                      · simp only [Act.put, List.setIfInBounds_toArray, List.set_cons_zero, List.set_cons_succ, i64_w, i32_w]
                        rfl
                      refine pure_ (i := 6) (N := some 56) (v := ?_) (a' := ?_) #[true, true, true, true, false, false, true, false, false, false, false, false, false, false, false] rfl rfl (any_of HT_.out (by kernel_rfl)) (fun _ _ _ h => h) (Or.inl ⟨by rfl, ?_⟩) ?_ ?_
                      rotate_left
                      · intro w'
                        go_simp
                        with_reducible rfl
                      rotate_left
                      · simp only [Act.put, List.setIfInBounds_toArray, List.set_cons_zero, List.set_cons_succ, i64_w, i32_w]
                        rfl
                      refine pure_ (i := 7) (N := some 57) (v := ?_) (a' := ?_) #[true, true, true, true, false, false, true, true, false, false, false, false, false, false, false] rfl rfl (any_of HT_.out (by kernel_rfl)) (fun _ _ _ h => h) (Or.inl ⟨by rfl, ?_⟩) ?_ ?_
                      rotate_left
                      · intro w'
                        go_simp
                        with_reducible rfl
                      rotate_left
                      · simp only [Act.put, List.setIfInBounds_toArray, List.set_cons_zero, List.set_cons_succ, i64_w, i32_w]
                        rfl
                      refine pure_ (i := 8) (N := some 58) (v := ?_) (a' := ?_) #[true, true, true, true, false, false, true, true, true, false, false, false, false, false, false] rfl rfl (any_of HT_.out (by kernel_rfl)) (fun _ _ _ h => h) (Or.inl ⟨by rfl, ?_⟩) ?_ ?_
                      rotate_left
                      · intro w'
                        go_simp
                        with_reducible rfl
                      rotate_left
                      · simp only [Act.put, List.setIfInBounds_toArray, List.set_cons_zero, List.set_cons_succ, i64_w, i32_w]
                        rfl
                      refine pure_ (i := 9) (N := some 59) (v := ?_) (a' := ?_) #[true, true, true, true, false, false, true, true, true, true, false, false, false, false, false] rfl rfl (any_of HT_.out (by kernel_rfl)) (fun _ _ _ h => h) (Or.inl ⟨by rfl, ?_⟩) ?_ ?_
                      rotate_left
                      · intro w'
                        go_simp
                        with_reducible rfl
                      rotate_left
                      · simp only [Act.put, List.setIfInBounds_toArray, List.set_cons_zero, List.set_cons_succ, i64_w, i32_w]
                        rfl
                      refine take_ (i := 4) (N := some 54) (v := ?_) (a' := ?_) #[true, true, true, true, true, false, true, true, true, true, false, false, false, false, false] rfl rfl (take_ofW HT_.out HW_.out (by kernel_rfl)) (fun _ _ _ h => h) (Or.inl ⟨by rfl, ?_⟩) hHeld ?_ ?_
                      rotate_left
                      · rintro w' ⟨s0, s1, s2, s3⟩
                        go_simp
                        with_reducible rfl
                      rotate_left
                      · simp only [Act.put, List.setIfInBounds_toArray, List.set_cons_zero, List.set_cons_succ, i64_w, i32_w]
                        rfl
                      refine pure_ (i := 5) (N := some 55) (v := ?_) (a' := ?_) #[true, true, true, true, true, true, true, true, true, true, false, false, false, false, false] rfl rfl (any_of HT_.out (by kernel_rfl)) (fun _ _ _ h => h) (Or.inl ⟨by rfl, ?_⟩) ?_ ?_
                      rotate_left
                      · intro w'
                        go_simp
                        with_reducible rfl
                      rotate_left
                      · simp only [Act.put, List.setIfInBounds_toArray, List.set_cons_zero, List.set_cons_succ, i64_w, i32_w]
                        rfl
                      refine take_ (i := 10) (N := some 60) (v := ?_) (a' := ?_) #[true, true, true, true, true, true, true, true, true, true, true, false, false, false, false] rfl rfl (take_ofW HT_.out HW_.out (by kernel_rfl)) (fun _ _ _ h => h) (Or.inl ⟨by rfl, ?_⟩) hHeld ?_ ?_
                      rotate_left
                      · rintro w' ⟨s0, s1, s2, s3⟩
                        go_simp
                        with_reducible rfl
                      rotate_left
                      · simp only [Act.put, List.setIfInBounds_toArray, List.set_cons_zero, List.set_cons_succ, i64_w, i32_w]
                        rfl
                      refine pure_ (i := 11) (N := some 61) (v := ?_) (a' := ?_) #[true, true, true, true, true, true, true, true, true, true, true, true, false, false, false] rfl rfl (any_of HT_.out (by kernel_rfl)) (fun _ _ _ h => h) (Or.inl ⟨by rfl, ?_⟩) ?_ ?_
                      rotate_left
                      · intro w'
                        go_simp
                        with_reducible rfl
                      rotate_left
                      · simp only [Act.put, List.setIfInBounds_toArray, List.set_cons_zero, List.set_cons_succ, i64_w, i32_w]
                        rfl
                      refine pure_ (i := 12) (N := some 62) (v := ?_) (a' := ?_) #[true, true, true, true, true, true, true, true, true, true, true, true, true, false, false] rfl rfl (any_of HT_.out (by kernel_rfl)) (fun _ _ _ h => h) (Or.inl ⟨by rfl, ?_⟩) ?_ ?_
                      rotate_left
                      · intro w'
                        go_simp
                        with_reducible rfl
                      rotate_left
                      · simp only [Act.put, List.setIfInBounds_toArray, List.set_cons_zero, List.set_cons_succ, i64_w, i32_w]
                        rfl
                      refine one_ (i := 13) (N := some 13) #[true, true, true, true, true, true, true, true, true, true, true, true, true, true, false] rfl rfl (one_of HT_.out (by kernel_rfl)) (by decide) (fun K hK => ?_)
                      refine box_step ?hg (N := 13) ?hd (cs := #[.int .i64 0, .int .i64 0]) (t := 32) ?hr ?_; (case hd => rfl); (case hg => rfl); (case hr => first | (go_simp; done) | (go_simp; rfl))
                      intro gb421 hg w34 hbox hb
                      have HS0_ := (hb.cell (World.block_lt_of_cell? _ _ (hHeld.1))).trans (hHeld.1)
                      have HS1_ := (hb.cell (World.block_lt_of_cell? _ _ (hHeld.2.1))).trans (hHeld.2.1)
                      have HS2_ := (hb.cell (World.block_lt_of_cell? _ _ (hHeld.2.2.1))).trans (hHeld.2.2.1)
                      have HS3_ := (hb.cell (World.block_lt_of_cell? _ _ (hHeld.2.2.2))).trans (hHeld.2.2.2)
                      have n0_ := Aside0.mk (Kd.Q_below (Kd.Q_elderB (by (with_reducible repeat (first | apply Kd.Q_alloc | apply Kd.Q_drewN | apply Kd.Q_drew)); exact HO_3.out) gb421 (Nat.le_of_eq hg.symm)) hb)
                      have n1_ := Aside0.mk (Kd.R_below (Kd.R_elderB (by (with_reducible repeat (first | apply Kd.R_alloc | apply Kd.R_drewN | apply Kd.R_drew)); exact HO_6.out) gb421 (Nat.le_of_eq hg.symm)) hb)
                      have n2_ := Aside0.mk (Kd.R_below (Kd.R_elderB (by (with_reducible repeat (first | apply Kd.R_alloc | apply Kd.R_drewN | apply Kd.R_drew)); exact HO_10.out) gb421 (Nat.le_of_eq hg.symm)) hb)
                      have n3_ := Aside0.mk (below_step (by repeat (first | (with_reducible first | exact HB.out | apply below_alloc | apply pw_below_drewN | apply below_drew1) | exact HB.out)) hb)
                      have n4_ := Aside0.mk (hbox)
                      have n5_ := Aside0.mk ((by rw [hg]; exact (below_size (by repeat (first | (with_reducible first | exact HB.out | apply below_alloc | apply pw_below_drewN | apply below_drew1) | exact HB.out))) : w.heap.size ≤ gb421))
                      have n6_ := Aside0.mk ((by rw [hg]; exact (below_size (by repeat (first | (with_reducible first | exact HB.out | apply below_alloc | apply pw_below_drewN | apply below_drew1) | exact HB.out))) : w.heap.size ≤ gb421))
                      clear HO_3
                      clear HO_6
                      clear HO_10
                      clear HB
                      have HO_3 := n0_
                      have HO_6 := n1_
                      have HO_10 := n2_
                      have HB := n3_
                      have BK421 := n4_
                      have GW421 := n5_
                      have GE421 := n6_
                      clear n0_ n1_ n2_ n3_ n4_ n5_ n6_
                      clear hb hbox hg
                      refine hK.out _ _ ⟨HS0_, HS1_, HS2_, HS3_⟩ (fun hHeld => ?_)
                      clear hK K
                      refine norm_ (a' := ?_) ?_ ?_
                      rotate_left
                      · show Act.put _ (some 13) _ = _
                        simp only [Act.put, List.setIfInBounds_toArray, List.set_cons_zero, List.set_cons_succ, i64_w, i32_w]
                        rfl
                      refine one_ (i := 14) (N := none) #[true, true, true, true, true, true, true, true, true, true, true, true, true, true, true] rfl rfl (one_of HT_.out (by kernel_rfl)) (by decide) (fun K hK => ?_)
                      have hs35 : w34.cell? ⟨gb421, 0, none⟩ = some (.int .i64 0) := (blk_cell BK421.out 0).trans rfl
                      have hfs35 := blk_frozen BK421.out 0
                      have hs36 : w34.cell? ⟨gb421, 1, none⟩ = some (.int .i64 0) := (blk_cell BK421.out 1).trans rfl
                      have hfs36 := blk_frozen BK421.out 1
                      refine skip_ (w1 := ?_) (by rfl) rfl ?_ ?_
                      rotate_left
                      · go_simp
                        rfl
                      refine hK.out _ _ ⟨((cell_far (p := ⟨gb421, _, none⟩) (by first | exact Kd.own_blk (Kd.Q_away HO_3.out (fun _ hk => hk.2)) | (rw [add_block]; exact Kd.own_blk (Kd.Q_away HO_3.out (fun _ hk => hk.2))) | (show (Addr.add _ _).block ≠ _; rw [add_block]; exact Kd.own_blk (Kd.Q_away HO_3.out (fun _ hk => hk.2))) | (dsimp only; exact Kd.own_blk (Kd.Q_away HO_3.out (fun _ hk => hk.2)))) _).trans (((cell_far (p := ⟨gb421, _, none⟩) (by first | exact Kd.own_blk (Kd.Q_away HO_3.out (fun _ hk => hk.2)) | (rw [add_block]; exact Kd.own_blk (Kd.Q_away HO_3.out (fun _ hk => hk.2))) | (show (Addr.add _ _).block ≠ _; rw [add_block]; exact Kd.own_blk (Kd.Q_away HO_3.out (fun _ hk => hk.2))) | (dsimp only; exact Kd.own_blk (Kd.Q_away HO_3.out (fun _ hk => hk.2)))) _).trans (hHeld.1)))), ((cell_far (p := ⟨gb421, _, none⟩) (by first | exact Kd.own_blk (Kd.Q_away HO_3.out (fun _ hk => hk.2)) | (rw [add_block]; exact Kd.own_blk (Kd.Q_away HO_3.out (fun _ hk => hk.2))) | (show (Addr.add _ _).block ≠ _; rw [add_block]; exact Kd.own_blk (Kd.Q_away HO_3.out (fun _ hk => hk.2))) | (dsimp only; exact Kd.own_blk (Kd.Q_away HO_3.out (fun _ hk => hk.2)))) _).trans (((cell_far (p := ⟨gb421, _, none⟩) (by first | exact Kd.own_blk (Kd.Q_away HO_3.out (fun _ hk => hk.2)) | (rw [add_block]; exact Kd.own_blk (Kd.Q_away HO_3.out (fun _ hk => hk.2))) | (show (Addr.add _ _).block ≠ _; rw [add_block]; exact Kd.own_blk (Kd.Q_away HO_3.out (fun _ hk => hk.2))) | (dsimp only; exact Kd.own_blk (Kd.Q_away HO_3.out (fun _ hk => hk.2)))) _).trans (hHeld.2.1)))), ((cell_far (p := ⟨gb421, _, none⟩) (by first | exact Kd.own_blk (Kd.Q_away HO_3.out (fun _ hk => hk.2)) | (rw [add_block]; exact Kd.own_blk (Kd.Q_away HO_3.out (fun _ hk => hk.2))) | (show (Addr.add _ _).block ≠ _; rw [add_block]; exact Kd.own_blk (Kd.Q_away HO_3.out (fun _ hk => hk.2))) | (dsimp only; exact Kd.own_blk (Kd.Q_away HO_3.out (fun _ hk => hk.2)))) _).trans (((cell_far (p := ⟨gb421, _, none⟩) (by first | exact Kd.own_blk (Kd.Q_away HO_3.out (fun _ hk => hk.2)) | (rw [add_block]; exact Kd.own_blk (Kd.Q_away HO_3.out (fun _ hk => hk.2))) | (show (Addr.add _ _).block ≠ _; rw [add_block]; exact Kd.own_blk (Kd.Q_away HO_3.out (fun _ hk => hk.2))) | (dsimp only; exact Kd.own_blk (Kd.Q_away HO_3.out (fun _ hk => hk.2)))) _).trans (hHeld.2.2.1)))), ((cell_far (p := ⟨gb421, _, none⟩) (by first | exact Kd.own_blk (Kd.Q_away HO_3.out (fun _ hk => hk.2)) | (rw [add_block]; exact Kd.own_blk (Kd.Q_away HO_3.out (fun _ hk => hk.2))) | (show (Addr.add _ _).block ≠ _; rw [add_block]; exact Kd.own_blk (Kd.Q_away HO_3.out (fun _ hk => hk.2))) | (dsimp only; exact Kd.own_blk (Kd.Q_away HO_3.out (fun _ hk => hk.2)))) _).trans (((cell_far (p := ⟨gb421, _, none⟩) (by first | exact Kd.own_blk (Kd.Q_away HO_3.out (fun _ hk => hk.2)) | (rw [add_block]; exact Kd.own_blk (Kd.Q_away HO_3.out (fun _ hk => hk.2))) | (show (Addr.add _ _).block ≠ _; rw [add_block]; exact Kd.own_blk (Kd.Q_away HO_3.out (fun _ hk => hk.2))) | (dsimp only; exact Kd.own_blk (Kd.Q_away HO_3.out (fun _ hk => hk.2)))) _).trans (hHeld.2.2.2))))⟩ (fun hHeld => ?_)
                      clear hK K
                      refine done_ (done_of HT_.out (by kernel_rfl)) ?_
                      have hcz37_0 : w34.cell? ⟨gb421, 0, none⟩ = some (.int .i64 0) := (blk_cell BK421.out 0).trans rfl
                      have hcz37_1 : w34.cell? ⟨gb421, 1, none⟩ = some (.int .i64 0) := (blk_cell BK421.out 1).trans rfl
                      have hfz37_0 := blk_frozen BK421.out 0
                      have hfz37_1 := blk_frozen BK421.out 1
                      try go_wp2_with (first | ((with_reducible refine gate_builtin (b := .append) (xs := #[.tmp 68, .tmp 70]) rfl ?_); at_builtin; refine Kd.R_append k32 (w0 := w) w.heap.size rfl (.tmp 68) (.tmp 70) 23 32 (.agg #[(.int .i64 0), (.int .i64 0)]) 16 rfl Try.underlying23 info32 rfl (by decide) (by omega) u10 x10_2 (⟨wrap64 (((rd_T32 t405 x12_2).f0) + 3), wrap64 (((rd_T32 t405 x12_2).f1) + 3)⟩ : S32) [.int .i64 (wrap64 (((rd_T32 t405 x12_2).f0) + 3)), .int .i64 (wrap64 (((rd_T32 t405 x12_2).f1) + 3))] (fun k_ => some k_ ≠ (.slice (some ad419) t405.length co8 : Value).ownBlock ∧ some k_ ≠ (v412 : Value).ownBlock ∧ k_ ≠ gb421) (fun _ => False) rfl (by first | (go_simp; done) | (go_simp; rfl)) ?aP (fun _ hk => hk.elim) ?aF ?aO ?aB ?aS ?aL ?_; (case aP => exact k32_mkM _ _ _ (⟨wrap64 (((rd_T32 t405 x12_2).f0) + 3), wrap64 (((rd_T32 t405 x12_2).f1) + 3)⟩ : S32)); (case aB => exact (by repeat (first | (with_reducible first | exact HB.out | apply below_alloc | apply pw_below_drewN | apply below_drew1 | refine below_set ?_ GE421.out) | exact HB.out))); (case aF => exact (fun k_ hk => ⟨Kd.fresh' (Kd.Q_lt (by (with_reducible repeat (first | apply Kd.Q_alloc | apply Kd.Q_drewN | apply Kd.Q_drew)); exact (Kd.Q_mono (Kd.Q_far (p := ⟨gb421, 1, none⟩) (Kd.Q_far (p := ⟨gb421, 0, none⟩) (Kd.Q_mono HO_3.out (fun k_ hk => (⟨hk, hk.2⟩ : _ ∧ k_ ≠ gb421))) (fun _ hk => hk.2) (.int .i64 (wrap64 (((rd_T32 t405 x12_2).f0) + 3)))) (fun _ hk => hk.2) (.int .i64 (wrap64 (((rd_T32 t405 x12_2).f1) + 3)))) (fun _ h_ => h_.1)))) k_ hk, Kd.fresh' (Kd.R_lt (by (with_reducible repeat (first | apply Kd.R_alloc | apply Kd.R_drewN | apply Kd.R_drew)); exact (Kd.R_mono (Kd.R_far (p := ⟨gb421, 1, none⟩) (Kd.R_far (p := ⟨gb421, 0, none⟩) (Kd.R_mono HO_6.out (fun k_ hk => (⟨hk, hk.2⟩ : _ ∧ k_ ≠ gb421))) (fun _ hk => hk.2) (.int .i64 (wrap64 (((rd_T32 t405 x12_2).f0) + 3)))) (fun _ hk => hk.2) (.int .i64 (wrap64 (((rd_T32 t405 x12_2).f1) + 3)))) (fun _ h_ => h_.1)))) k_ hk, Kd.freshB (g := gb421) (o := .cells #[.int .i64 (wrap64 (((rd_T32 t405 x12_2).f0) + 3)), .int .i64 (wrap64 (((rd_T32 t405 x12_2).f1) + 3))] 32 (0, 0)) (by (with_reducible repeat (first | refine blk_drewN ?_ _ | refine blk_drew ?_ | refine blk_alloc ?_ _)); refine blk_put (cs := #[.int .i64 (wrap64 (((rd_T32 t405 x12_2).f0) + 3)), .int .i64 0]) ?_ 1 _ rfl; (with_reducible repeat (first | refine blk_drewN ?_ _ | refine blk_drew ?_ | refine blk_alloc ?_ _)); refine blk_put (cs := #[.int .i64 0, .int .i64 0]) ?_ 0 _ rfl; (with_reducible repeat (first | refine blk_drewN ?_ _ | refine blk_drew ?_ | refine blk_alloc ?_ _)); exact BK421.out) k_ hk⟩)); (case aO => exact (by (with_reducible repeat (first | apply Kd.R_alloc | apply Kd.R_drewN | apply Kd.R_drew)); exact Kd.R_mono (Kd.R_far (p := ⟨gb421, 1, none⟩) (Kd.R_far (p := ⟨gb421, 0, none⟩) (Kd.R_mono HO_10.out (fun k_ hk => (⟨hk, hk.2⟩ : _ ∧ k_ ≠ gb421))) (fun _ hk => hk.2) (.int .i64 (wrap64 (((rd_T32 t405 x12_2).f0) + 3)))) (fun _ hk => hk.2) (.int .i64 (wrap64 (((rd_T32 t405 x12_2).f1) + 3)))) (fun _ hk => ⟨hk.1.1.1, ⟨hk.1.1.2, hk.1.2⟩⟩))); (case aS => exact (below_size (by repeat (first | (with_reducible first | exact HB.out | apply below_alloc | apply pw_below_drewN | apply below_drew1 | refine below_set ?_ GE421.out) | exact HB.out)))); (case aL => have := LMc32.out; omega); intro v427 w38 ho hb hg hat; rw [← Ny426.out] at ho; have n0_ := Aside0.mk (Kd.Q_after (ok := (fun k_ => some k_ ≠ (v412 : Value).ownBlock ∧ k_ ≠ gb421)) (by (with_reducible repeat (first | apply Kd.Q_alloc | apply Kd.Q_drewN | apply Kd.Q_drew)); exact Kd.Q_mono (Kd.Q_far (p := ⟨gb421, 1, none⟩) (Kd.Q_far (p := ⟨gb421, 0, none⟩) (Kd.Q_mono HO_3.out (fun k_ hk => (⟨hk, hk.2⟩ : _ ∧ k_ ≠ gb421))) (fun _ hk => hk.2) (.int .i64 (wrap64 (((rd_T32 t405 x12_2).f0) + 3)))) (fun _ hk => hk.2) (.int .i64 (wrap64 (((rd_T32 t405 x12_2).f1) + 3)))) (fun _ hk => ⟨⟨hk.1.1.1, hk.1.2⟩, hk.1.1.2⟩)) hg hat); have n1_ := Aside0.mk (Kd.R_after (ok := (fun k_ => some k_ ≠ (.slice (some ad419) t405.length co8 : Value).ownBlock ∧ k_ ≠ gb421)) (by (with_reducible repeat (first | apply Kd.R_alloc | apply Kd.R_drewN | apply Kd.R_drew)); exact Kd.R_mono (Kd.R_far (p := ⟨gb421, 1, none⟩) (Kd.R_far (p := ⟨gb421, 0, none⟩) (Kd.R_mono HO_6.out (fun k_ hk => (⟨hk, hk.2⟩ : _ ∧ k_ ≠ gb421))) (fun _ hk => hk.2) (.int .i64 (wrap64 (((rd_T32 t405 x12_2).f0) + 3)))) (fun _ hk => hk.2) (.int .i64 (wrap64 (((rd_T32 t405 x12_2).f1) + 3)))) (fun _ hk => ⟨⟨hk.1.1.1, hk.1.2⟩, hk.1.1.2⟩)) hg hat); have n2_ := Aside0.mk (blk_grown (g := gb421) (o := .cells #[.int .i64 (wrap64 (((rd_T32 t405 x12_2).f0) + 3)), .int .i64 (wrap64 (((rd_T32 t405 x12_2).f1) + 3))] 32 (0, 0)) (by (with_reducible repeat (first | refine blk_drewN ?_ _ | refine blk_drew ?_ | refine blk_alloc ?_ _)); refine blk_put (cs := #[.int .i64 (wrap64 (((rd_T32 t405 x12_2).f0) + 3)), .int .i64 0]) ?_ 1 _ rfl; (with_reducible repeat (first | refine blk_drewN ?_ _ | refine blk_drew ?_ | refine blk_alloc ?_ _)); refine blk_put (cs := #[.int .i64 0, .int .i64 0]) ?_ 0 _ rfl; (with_reducible repeat (first | refine blk_drewN ?_ _ | refine blk_drew ?_ | refine blk_alloc ?_ _)); exact BK421.out) hg (Kd.R_away HO_10.out (fun _ hk => hk.2))); have n3_ := Aside0.mk (hb); have n4_ := Aside0.mk (ho); clear HO_3; clear HO_6; clear BK421; clear HB; clear HO_10; have HO_3 := n0_; have HO_6 := n1_; have BK421 := n2_; have HB := n3_; have HO428 := n4_; clear n0_ n1_ n2_ n3_ n4_; clear ho hb hg hat))
                      go_roundg k2
                      case measure => have := HJ5.out; have := HK2.out; omega
                      case rel => exact ⟨(y426), (false), (wrap64 (x12_2 + 1)), (by first | rfl | (simp; done) | (simp [*]; done)), (by first | rfl | (simp; done) | (simp [*]; done)), H', ⟨by have := HJ5.out; have := HK2.out; omega⟩, ⟨by (with_reducible repeat (first | apply Kd.Q_alloc | apply Kd.Q_drewN | apply Kd.Q_drew)); exact Kd.Q_mono HO_3.out (fun _ hk => ⟨hk.1.1, hk.2⟩)⟩, ⟨by (with_reducible repeat (first | apply Kd.R_alloc | apply Kd.R_drewN | apply Kd.R_drew)); exact Kd.R_mono HO_6.out (fun _ hk => ⟨hk.1.1, hk.2⟩)⟩, ⟨by (with_reducible repeat (first | apply Kd.R_alloc | apply Kd.R_drewN | apply Kd.R_drew)); exact Kd.R_mono HO428.out (fun _ hk => ⟨hk.1, hk.2.1⟩)⟩, ⟨by repeat (first | (with_reducible first | exact HB.out | apply below_alloc | apply pw_below_drewN | apply below_drew1 | refine below_set ?_ GE421.out) | exact HB.out)⟩⟩
                    · rw [if_neg c32] at H
                      exact absurd H (by simp)
                · rw [if_neg c20] at H
                  exact absurd H (by simp)
              · rw [if_neg c19] at H
                have c19b0 : decide (x12_2 < (t405.length : Int)) = false := decide_eq_false c19
                clear c19
                by_cases c39 : t411 = true
                · subst c39
                  have H1 : (if t415 = true then (if t414 > 0 then ((impl_PolyValid.f t405).bind fun t429 => (if t429 = true then ((impl_ParcelValid.f t410).bind fun t430 => (if t430 = true then (some false) else (if x11_2 = true then ((impl_ParcelValid.f x10_2).bind fun t431 => (some t431)) else (some true)))) else (some false))) else (some false)) else (some false)) = some r := by rw [if_pos rfl] at H; exact H
                  clear H
                  have H := H1
                  clear H1
                  by_cases c40 : t415 = true
                  · subst c40
                    have H1 : (if t414 > 0 then ((impl_PolyValid.f t405).bind fun t429 => (if t429 = true then ((impl_ParcelValid.f t410).bind fun t430 => (if t430 = true then (some false) else (if x11_2 = true then ((impl_ParcelValid.f x10_2).bind fun t431 => (some t431)) else (some true)))) else (some false))) else (some false)) = some r := by rw [if_pos rfl] at H; exact H
                    clear H
                    have H := H1
                    clear H1
                    by_cases c41 : t414 > 0
                    · rw [if_pos c41] at H
                      have c41b0 : decide (0 < t414) = true := decide_eq_true c41
                      clear c41
                      replace H := Option.bind_eq_some_iff.mp H
                      obtain ⟨t429, A420, H⟩ := H
                      replace H : (if t429 = true then ((impl_ParcelValid.f t410).bind fun t430 => (if t430 = true then (some false) else (if x11_2 = true then ((impl_ParcelValid.f x10_2).bind fun t431 => (some t431)) else (some true)))) else (some false)) = some r := H
                      have A42 := Aside0.mk A420
                      clear A420
                      by_cases c43 : t429 = true
                      · subst c43
                        have H1 : ((impl_ParcelValid.f t410).bind fun t430 => (if t430 = true then (some false) else (if x11_2 = true then ((impl_ParcelValid.f x10_2).bind fun t431 => (some t431)) else (some true)))) = some r := by rw [if_pos rfl] at H; exact H
                        clear H
                        have H := H1
                        clear H1
                        replace H := Option.bind_eq_some_iff.mp H
                        obtain ⟨t430, A440, H⟩ := H
                        replace H : (if t430 = true then (some false) else (if x11_2 = true then ((impl_ParcelValid.f x10_2).bind fun t431 => (some t431)) else (some true))) = some r := H
                        have A44 := Aside0.mk A440
                        clear A440
                        by_cases c45 : t430 = true
                        · subst c45
                          have H1 : (some false) = some r := by rw [if_pos rfl] at H; exact H
                          clear H
                          have H := H1
                          clear H1
                          exact absurd ((Option.some.inj H).trans hT.out) (by decide)
                        · replace c45 := Bool.eq_false_iff.mpr c45
                          subst c45
                          have H1 : (if x11_2 = true then ((impl_ParcelValid.f x10_2).bind fun t431 => (some t431)) else (some true)) = some r := by rw [if_neg (show ¬ (false = true) by decide)] at H; exact H
                          clear H
                          have H := H1
                          clear H1
                          by_cases c46 : x11_2 = true
                          · subst c46
                            have H1 : ((impl_ParcelValid.f x10_2).bind fun t431 => (some t431)) = some r := by rw [if_pos rfl] at H; exact H
                            clear H
                            have H := H1
                            clear H1
                            replace H := Option.bind_eq_some_iff.mp H
                            obtain ⟨t431, A470, H⟩ := H
                            replace H : (some t431) = some r := H
                            have A47 := Aside0.mk A470
                            clear A470
                            obtain rfl := Option.some.inj H
                            go_wp2_with (first | (go_at_call 18; (with_reducible refine (impl_PolyValid.calls _ _ t405 true _ ?side1 ?side2 A42.out).mono ?_); (case side1 => repeat (first | exact (Kd.Q_reads' HO_3.out).2.2 | (with_reducible refine Kd.C_alloc ?_ _) | (with_reducible refine Kd.C_drewN ?_ _) | (with_reducible refine Kd.C_drew ?_))); (case side2 => exact (Kd.Q_reads' HO_3.out).2.1); rintro e w48 ⟨rfl, hb⟩; have n0_ := Aside0.mk (Kd.Q_below (by (with_reducible repeat (first | apply Kd.Q_alloc | apply Kd.Q_drewN | apply Kd.Q_drew)); exact HO_3.out) hb); have n1_ := Aside0.mk (Kd.R_below (by (with_reducible repeat (first | apply Kd.R_alloc | apply Kd.R_drewN | apply Kd.R_drew)); exact HO_6.out) hb); have n2_ := Aside0.mk (Kd.R_below (by (with_reducible repeat (first | apply Kd.R_alloc | apply Kd.R_drewN | apply Kd.R_drew)); exact HO_10.out) hb); have n3_ := Aside0.mk (below_step (by repeat (first | (with_reducible first | exact HB.out | apply below_alloc | apply pw_below_drewN | apply below_drew1) | exact HB.out)) hb); clear HO_3; clear HO_6; clear HO_10; clear HB; have HO_3 := n0_; have HO_6 := n1_; have HO_10 := n2_; have HB := n3_; clear n0_ n1_ n2_ n3_; (try clear hb); (try clear hb2); (try clear hk); (try clear hi); obtain ⟨Ao49, co49, eo49⟩ := Kd.R_slice HO_6.out; subst eo49) | (go_at_call 21; (with_reducible refine (impl_ParcelValid.calls _ _ t410 false _ ?side1 ?side2 A44.out).mono ?_); (case side1 => repeat (first | exact (Kd.R_reads' HO_6.out).2.2 | (with_reducible refine Kd.C_alloc ?_ _) | (with_reducible refine Kd.C_drewN ?_ _) | (with_reducible refine Kd.C_drew ?_))); (case side2 => exact (Kd.R_reads' HO_6.out).2.1); rintro e w50 ⟨rfl, hb⟩; have n0_ := Aside0.mk (Kd.Q_below (by (with_reducible repeat (first | apply Kd.Q_alloc | apply Kd.Q_drewN | apply Kd.Q_drew)); exact HO_3.out) hb); have n1_ := Aside0.mk (Kd.R_below (by (with_reducible repeat (first | apply Kd.R_alloc | apply Kd.R_drewN | apply Kd.R_drew)); exact HO_6.out) hb); have n2_ := Aside0.mk (Kd.R_below (by (with_reducible repeat (first | apply Kd.R_alloc | apply Kd.R_drewN | apply Kd.R_drew)); exact HO_10.out) hb); have n3_ := Aside0.mk (below_step (by repeat (first | (with_reducible first | exact HB.out | apply below_alloc | apply pw_below_drewN | apply below_drew1) | exact HB.out)) hb); clear HO_3; clear HO_6; clear HO_10; clear HB; have HO_3 := n0_; have HO_6 := n1_; have HO_10 := n2_; have HB := n3_; clear n0_ n1_ n2_ n3_; (try clear hb); (try clear hb2); (try clear hk); (try clear hi); obtain ⟨Ao51, co51, eo51⟩ := Kd.R_slice HO_10.out; subst eo51) | (go_at_call 21; (with_reducible refine (impl_ParcelValid.calls _ _ x10_2 t431 _ ?side1 ?side2 A47.out).mono ?_); (case side1 => repeat (first | exact (Kd.R_reads' HO_10.out).2.2 | (with_reducible refine Kd.C_alloc ?_ _) | (with_reducible refine Kd.C_drewN ?_ _) | (with_reducible refine Kd.C_drew ?_))); (case side2 => exact (Kd.R_reads' HO_10.out).2.1); rintro e w52 ⟨rfl, hb⟩; have n0_ := Aside0.mk (Kd.Q_below (by (with_reducible repeat (first | apply Kd.Q_alloc | apply Kd.Q_drewN | apply Kd.Q_drew)); exact HO_3.out) hb); have n1_ := Aside0.mk (Kd.R_below (by (with_reducible repeat (first | apply Kd.R_alloc | apply Kd.R_drewN | apply Kd.R_drew)); exact HO_6.out) hb); have n2_ := Aside0.mk (Kd.R_below (by (with_reducible repeat (first | apply Kd.R_alloc | apply Kd.R_drewN | apply Kd.R_drew)); exact HO_10.out) hb); have n3_ := Aside0.mk (below_step (by repeat (first | (with_reducible first | exact HB.out | apply below_alloc | apply pw_below_drewN | apply below_drew1) | exact HB.out)) hb); clear HO_3; clear HO_6; clear HO_10; clear HB; have HO_3 := n0_; have HO_6 := n1_; have HO_10 := n2_; have HB := n3_; clear n0_ n1_ n2_ n3_; (try clear hb); (try clear hb2); (try clear hk); (try clear hi)))
                            go_ret
                            exact ⟨by first | rfl | (simp [errW_none, errW_some] <;> rfl) | (simp [*, errW_none, errW_some] <;> rfl), by repeat (first | (with_reducible first | exact HB.out | apply below_alloc | apply pw_below_drewN | apply below_drew1) | exact HB.out)⟩
                          · replace c46 := Bool.eq_false_iff.mpr c46
                            subst c46
                            have H1 : (some true) = some r := by rw [if_neg (show ¬ (false = true) by decide)] at H; exact H
                            clear H
                            have H := H1
                            clear H1
                            obtain rfl := Option.some.inj H
                            go_wp2_with (first | (go_at_call 18; (with_reducible refine (impl_PolyValid.calls _ _ t405 true _ ?side1 ?side2 A42.out).mono ?_); (case side1 => repeat (first | exact (Kd.Q_reads' HO_3.out).2.2 | (with_reducible refine Kd.C_alloc ?_ _) | (with_reducible refine Kd.C_drewN ?_ _) | (with_reducible refine Kd.C_drew ?_))); (case side2 => exact (Kd.Q_reads' HO_3.out).2.1); rintro e w53 ⟨rfl, hb⟩; have n0_ := Aside0.mk (Kd.Q_below (by (with_reducible repeat (first | apply Kd.Q_alloc | apply Kd.Q_drewN | apply Kd.Q_drew)); exact HO_3.out) hb); have n1_ := Aside0.mk (Kd.R_below (by (with_reducible repeat (first | apply Kd.R_alloc | apply Kd.R_drewN | apply Kd.R_drew)); exact HO_6.out) hb); have n2_ := Aside0.mk (Kd.R_below (by (with_reducible repeat (first | apply Kd.R_alloc | apply Kd.R_drewN | apply Kd.R_drew)); exact HO_10.out) hb); have n3_ := Aside0.mk (below_step (by repeat (first | (with_reducible first | exact HB.out | apply below_alloc | apply pw_below_drewN | apply below_drew1) | exact HB.out)) hb); clear HO_3; clear HO_6; clear HO_10; clear HB; have HO_3 := n0_; have HO_6 := n1_; have HO_10 := n2_; have HB := n3_; clear n0_ n1_ n2_ n3_; (try clear hb); (try clear hb2); (try clear hk); (try clear hi); obtain ⟨Ao54, co54, eo54⟩ := Kd.R_slice HO_6.out; subst eo54) | (go_at_call 21; (with_reducible refine (impl_ParcelValid.calls _ _ t410 false _ ?side1 ?side2 A44.out).mono ?_); (case side1 => repeat (first | exact (Kd.R_reads' HO_6.out).2.2 | (with_reducible refine Kd.C_alloc ?_ _) | (with_reducible refine Kd.C_drewN ?_ _) | (with_reducible refine Kd.C_drew ?_))); (case side2 => exact (Kd.R_reads' HO_6.out).2.1); rintro e w55 ⟨rfl, hb⟩; have n0_ := Aside0.mk (Kd.Q_below (by (with_reducible repeat (first | apply Kd.Q_alloc | apply Kd.Q_drewN | apply Kd.Q_drew)); exact HO_3.out) hb); have n1_ := Aside0.mk (Kd.R_below (by (with_reducible repeat (first | apply Kd.R_alloc | apply Kd.R_drewN | apply Kd.R_drew)); exact HO_6.out) hb); have n2_ := Aside0.mk (Kd.R_below (by (with_reducible repeat (first | apply Kd.R_alloc | apply Kd.R_drewN | apply Kd.R_drew)); exact HO_10.out) hb); have n3_ := Aside0.mk (below_step (by repeat (first | (with_reducible first | exact HB.out | apply below_alloc | apply pw_below_drewN | apply below_drew1) | exact HB.out)) hb); clear HO_3; clear HO_6; clear HO_10; clear HB; have HO_3 := n0_; have HO_6 := n1_; have HO_10 := n2_; have HB := n3_; clear n0_ n1_ n2_ n3_; (try clear hb); (try clear hb2); (try clear hk); (try clear hi)))
                            go_ret
                            exact ⟨by first | rfl | (simp [errW_none, errW_some] <;> rfl) | (simp [*, errW_none, errW_some] <;> rfl), by repeat (first | (with_reducible first | exact HB.out | apply below_alloc | apply pw_below_drewN | apply below_drew1) | exact HB.out)⟩
                      · replace c43 := Bool.eq_false_iff.mpr c43
                        subst c43
                        have H1 : (some false) = some r := by rw [if_neg (show ¬ (false = true) by decide)] at H; exact H
                        clear H
                        have H := H1
                        clear H1
                        exact absurd ((Option.some.inj H).trans hT.out) (by decide)
                    · rw [if_neg c41] at H
                      have c41b0 : decide (0 < t414) = false := decide_eq_false c41
                      clear c41
                      exact absurd ((Option.some.inj H).trans hT.out) (by decide)
                  · replace c40 := Bool.eq_false_iff.mpr c40
                    subst c40
                    have H1 : (some false) = some r := by rw [if_neg (show ¬ (false = true) by decide)] at H; exact H
                    clear H
                    have H := H1
                    clear H1
                    exact absurd ((Option.some.inj H).trans hT.out) (by decide)
                · replace c39 := Bool.eq_false_iff.mpr c39
                  subst c39
                  have H1 : (some false) = some r := by rw [if_neg (show ¬ (false = true) by decide)] at H; exact H
                  clear H
                  have H := H1
                  clear H1
                  exact absurd ((Option.some.inj H).trans hT.out) (by decide)

/-- THE ONE PURE STATEMENT of laws_FnParcel: yours. -/
def laws_FnParcel.Pure : Prop := ∀ (l0 : List Int), l0.length ≤ maxLen → l0.length * 1 ≤ 140737488351232 → (∀ x ∈ l0, (Lit.int .u8 x).wf = true) → ∃ k, laws_FnParcel.f k l0 = some true
theorem laws_FnParcel.walk (P : laws_FnParcel.Pure) (a0 : Option Addr) (len0 cap0 : Nat) (z0 : List Int) (w : World) (w0 : (a0 = none ∧ len0 = 0 ∧ cap0 = 0 ∧ z0 = []) ∨ ∃ x, a0 = some x ∧ len0 ≤ cap0 ∧ cap0 ≤ maxLen ∧ z0.length = cap0 ∧ (∀ i, i < z0.length → w.cell? (x.add i) = some (.int .u8 (z0.getD i 0))) ∧ ∀ n ∈ z0, (Lit.int .u8 n).wf = true) (y0 : len0 * 1 ≤ 140737488351232) :
    Calls Try.prog 5 #[.slice a0 len0 cap0] w fun e w' => e = .returned (.bool true) ∧ Below w.heap.size w w' := by
  obtain ⟨l0, rfl, hr0, hm0, hw0, hc0⟩ := ReadsInt.ofRowC w0
  obtain ⟨k, h⟩ := P l0 hm0 y0 hw0
  refine (laws_FnParcel.calls k _ _ l0 true w (Kd.C_of_reads (d := (0 : Int)) (h1 := fun _ => rfl) hr0) hc0 h rfl).mono ?_
  rintro e w' ⟨rfl, hd⟩
  exact ⟨rfl, hd⟩

end Go.Proofs.Ytgdhgncdpmalcaa.Q
namespace Go.Proofs.Ytgdhgncdpmalcaa.Geo
set_option linter.unusedVariables false
/-! ### Sums -/
def sm (lo : Nat) : Nat → (Nat → Int) → Int
  | 0, _ => 0
  | k + 1, f => sm lo k f + f (lo + k)
theorem sm_congr {lo k : Nat} {f g : Nat → Int} (h : ∀ j, lo ≤ j → j < lo + k → f j = g j) : sm lo k f = sm lo k g := by
  induction k with
  | zero => rfl
  | succ k ih => simp only [sm]; rw [ih (fun j a b => h j a (by omega)), h (lo + k) (by omega) (by omega)]
theorem sm_tele (lo k : Nat) (f : Nat → Int) : sm lo k (fun j => f (j + 1) - f j) = f (lo + k) - f lo := by
  induction k with
  | zero => simp [sm]
  | succ k ih => simp only [sm]; rw [ih, show lo + (k + 1) = lo + k + 1 from rfl]; omega
theorem sm_first (lo k : Nat) (f : Nat → Int) : sm lo (k + 1) f = f lo + sm (lo + 1) k f := by
  induction k with
  | zero => simp [sm]
  | succ k ih => rw [sm, ih, sm, show lo + 1 + k = lo + (k + 1) from by omega]; omega
theorem sm_add (lo k : Nat) (f g : Nat → Int) : sm lo k (fun j => f j + g j) = sm lo k f + sm lo k g := by
  induction k with
  | zero => rfl
  | succ k ih => simp only [sm]; rw [ih]; omega
theorem sm_neg (lo k : Nat) (f : Nat → Int) : sm lo k (fun j => -(f j)) = -(sm lo k f) := by
  induction k with
  | zero => rfl
  | succ k ih => simp only [sm]; rw [ih]; omega
theorem sm_rev (k : Nat) (f : Nat → Int) : sm 0 k (fun j => f (k - 1 - j)) = sm 0 k f := by
  induction k with
  | zero => rfl
  | succ k ih =>
    rw [sm_first, sm]
    have : sm (0 + 1) k (fun j => f (k + 1 - 1 - j)) = sm 0 k (fun j => f (k - 1 - j)) := by
      have sh : ∀ (m : Nat) (g h : Nat → Int), (∀ j, j < m → g (j + 1) = h j) → sm (0 + 1) m g = sm 0 m h := by
        intro m g h
        induction m with
        | zero => intro _; rfl
        | succ m ihm => intro hh; simp only [sm]; rw [ihm (fun j hj => hh j (by omega)), show 0 + 1 + m = m + 1 from by omega, hh m (by omega), Nat.zero_add]
      exact sh k _ _ (fun j hj => by rw [show k + 1 - 1 - (j + 1) = k - 1 - j from by omega])
    rw [this, ih, Nat.zero_add, show k + 1 - 1 - 0 = k from by omega]
    omega
theorem sm_bd {lo k : Nat} {f : Nat → Int} {B : Int} (h : ∀ j, lo ≤ j → j < lo + k → -B ≤ f j ∧ f j ≤ B) : -(B * k) ≤ sm lo k f ∧ sm lo k f ≤ B * k := by
  induction k with
  | zero => simp [sm]
  | succ k ih =>
    have h1 := ih (fun j a b => h j a (by omega))
    have h2 := h (lo + k) (by omega) (by omega)
    have e : B * ((k + 1 : Nat) : Int) = B * (k : Int) + B := by rw [Int.natCast_add, Int.mul_add]; simp
    rw [sm, e]
    omega
end Go.Proofs.Ytgdhgncdpmalcaa.Geo
namespace Go.Proofs.Ytgdhgncdpmalcaa.Pure
open Go.RowKit Go.Proofs.Ytgdhgncdpmalcaa.Q Go.Proofs.Ytgdhgncdpmalcaa.Ring Go.Proofs.YtgdhgncdpmalcaaW.PrintWords Go.Proofs.YtgdhgncdpmalcaaW.PrintLast
theorem pwA {x : Int} (h0 : 0 ≤ x) (h1 : x ≤ 4611686018427387904) : wrap64 x = x := by unfold wrap64; omega
theorem Area_l0 {l : List Pt} (hl : l.length ≤ 1048576) (n : Nat) : ∀ (j k : Nat), j + n = l.length → n < k → spec_l31Area.l0 k l (areaS l j) (j : Int) = some (areaS l l.length) := by
  induction n with
  | zero =>
    intro j k hj hk
    obtain ⟨k, rfl⟩ : ∃ m, k = m + 1 := ⟨k - 1, by omega⟩
    rw [spec_l31Area.l0, if_neg (by omega), show j = l.length by omega]
  | succ n ih =>
    intro j k hj hk
    obtain ⟨k, rfl⟩ : ∃ m, k = m + 1 := ⟨k - 1, by omega⟩
    have hw : wrap64 ((j : Int) + 1) = ((j + 1 : Nat) : Int) := by rw [pwA (by omega) (by omega)]; omega
    have hmod : Int.tmod ((j + 1 : Nat) : Int) (l.length : Int) = (((j + 1) % l.length : Nat) : Int) := by
      rw [Int.tmod_eq_emod_of_nonneg (by omega)]; simp
    have hlt : (j + 1) % l.length < l.length := Nat.mod_lt _ (by omega)
    rw [spec_l31Area.l0, if_pos (by omega), if_pos (by omega), if_neg (by omega), hw, hmod, if_pos (by omega), if_pos (by omega)]
    simp only [at_rd, spec_l2Cross.f, Option.bind_some]
    have := ih (j + 1) k (by omega) (by omega)
    rw [areaS] at this
    unfold crossP nxt at this
    rw [Int.mul_comm (at_ l ((j + 1) % l.length)).f0] at this
    exact this
end Go.Proofs.Ytgdhgncdpmalcaa.Pure
namespace Go.Proofs.Ytgdhgncdpmalcaa.Pure
open Go.RowKit Go.Proofs.Ytgdhgncdpmalcaa.Q Go.Proofs.YtgdhgncdpmalcaaW.PrintWords Go.Proofs.YtgdhgncdpmalcaaW.PrintLast
/-- The first corner, then the others from the last one on. -/
def backL : List Pt → List Pt
  | [] => []
  | p :: l => p :: l.reverse
theorem Back_same (l : List Pt) (k : Nat) : ∀ (x : List Pt) (i : Int), impl_PolyBack.l0 k l x i = spec_PolyBack.l0 k l x i := by
  induction k with
  | zero => intro x i; simp only [impl_PolyBack.l0, spec_PolyBack.l0]
  | succ k ih => intro x i; simp only [impl_PolyBack.l0, spec_PolyBack.l0, ih]
theorem Back_ok {p : Pt} {l : List Pt} (hl : l.length ≤ 100) (n : Nat) : ∀ (x : List Pt) (k : Nat), n < k → n ≤ l.length → x.length ≤ 200 - n → spec_PolyBack.l0 k (p :: l) x (n : Int) = some (x ++ (l.take n).reverse, true) := by
  induction n with
  | zero =>
    intro x k hk _ _
    obtain ⟨k, rfl⟩ : ∃ m, k = m + 1 := ⟨k - 1, by omega⟩
    rw [spec_PolyBack.l0, if_neg (by omega)]
    simp
  | succ n ih =>
    intro x k hk hn hx
    obtain ⟨k, rfl⟩ : ∃ m, k = m + 1 := ⟨k - 1, by omega⟩
    rw [spec_PolyBack.l0, if_pos (by omega), if_pos (by omega), if_pos (by simp; omega), if_pos (by omega), pw64 (by omega) (by omega), show ((n + 1 : Nat) : Int) - 1 = n by omega, ih _ k (by omega) (by omega) (by simp; omega)]
    have e : rd_T32 (p :: l) ((n + 1 : Nat) : Int) = l[n] := by simp [rd_T32, List.getElem?_eq_getElem (show n < l.length by omega)]
    have e2 : (l.take (n + 1)).reverse = l[n] :: (l.take n).reverse := by rw [List.take_add_one, List.getElem?_eq_getElem (show n < l.length by omega)]; simp
    rw [e, e2, List.append_assoc]
    rfl
theorem spec_PolyBack_eq (k : Nat) (l : List Pt) (hl : l.length ≤ 1048576) (hk : l.length + 30 < k) : spec_PolyBack.f k l = some (if cvB l = true then (backL l, true) else ([], false)) := by
  unfold spec_PolyBack.f
  rw [l31Points_eq _ _ hl (by omega)]
  simp only [Option.bind_some]
  by_cases h : cvB l = true
  · have hv := cvB_iff.1 h
    rw [if_pos h, if_pos h, if_pos (by omega)]
    cases l with
    | nil => simp at hv
    | cons p l =>
      simp only [List.length_cons] at hv hk hl ⊢
      rw [pw64 (by omega) (by omega), show ((l.length + 1 : Nat) : Int) - 1 = (l.length : Int) by omega, Back_ok (by omega) l.length _ _ (by omega) (by omega) (by simp; omega), List.take_length]
      rfl
  · rw [if_neg h, if_neg h]
theorem impl_PolyBack_eq (k : Nat) (l : List Pt) (hk : l.length + 30 < k) : impl_PolyBack.f k l = some (if cvB l = true then (backL l, true) else ([], false)) := by
  unfold impl_PolyBack.f
  rw [cornersValid_eq _ _ (by omega)]
  simp only [Option.bind_some]
  by_cases h : cvB l = true
  · have hv := cvB_iff.1 h
    rw [if_pos h, if_pos h, if_pos (by omega), if_pos (by omega), if_pos (by omega), if_pos (by simp)]
    cases l with
    | nil => simp at hv
    | cons p l =>
      simp only [List.length_cons] at hv hk ⊢
      rw [Back_same, pw64 (by omega) (by omega), show ((l.length + 1 : Nat) : Int) - 1 = (l.length : Int) by omega, Back_ok (by omega) l.length _ _ (by omega) (by omega) (by simp; omega), List.take_length]
      rfl
  · rw [if_neg h, if_neg h]
end Go.Proofs.Ytgdhgncdpmalcaa.Pure
namespace Go.Proofs.Ytgdhgncdpmalcaa.Pure
open Go.RowKit Go.Proofs.Ytgdhgncdpmalcaa.Q Go.Proofs.Ytgdhgncdpmalcaa.Ring Go.Proofs.Ytgdhgncdpmalcaa.Geo Go.Proofs.YtgdhgncdpmalcaaW.PrintWords Go.Proofs.YtgdhgncdpmalcaaW.PrintLast
/-- Corner i of a list, gone round as often as it takes. -/
def PC (l : List Pt) (i : Nat) : Pt := at_ l (i % l.length)
theorem PC_at {l : List Pt} {i : Nat} (h : i < l.length) : PC l i = at_ l i := by unfold PC; rw [Nat.mod_eq_of_lt h]
theorem PC_per (l : List Pt) (i : Nat) : PC l (i + l.length) = PC l i := by unfold PC; rw [Nat.add_mod_right]
theorem PC_nxt {l : List Pt} {i : Nat} : nxt l i = PC l (i + 1) := rfl
def crI (p q : Pt) : Int := p.f0 * q.f1 - q.f0 * p.f1
theorem crI_swap (p q : Pt) : crI q p = -(crI p q) := by unfold crI; omega
def area2 (l : List Pt) : Int := sm 0 l.length (fun i => crI (PC l i) (PC l (i + 1)))
theorem at_mem {l : List Pt} {j : Nat} (hj : j < l.length) : at_ l j ∈ l := by unfold at_; rw [List.getD_eq_getElem?_getD, List.getElem?_eq_getElem hj]; exact List.getElem_mem hj
theorem cv_at {l : List Pt} (h : cvB l = true) (i : Nat) : (-10000 ≤ (PC l i).f0 ∧ (PC l i).f0 ≤ 10000) ∧ -10000 ≤ (PC l i).f1 ∧ (PC l i).f1 ≤ 10000 := by
  have hv := cvB_iff.1 h
  exact ptB_iff.1 (hv.2 _ (at_mem (Nat.mod_lt _ (by omega))))
theorem mulX {x y : Int} (hx : -10000 ≤ x ∧ x ≤ 10000) (hy : -10000 ≤ y ∧ y ≤ 10000) : -100000000 ≤ x * y ∧ x * y ≤ 100000000 := by
  have h1 : x.natAbs ≤ 10000 := by omega
  have h2 : y.natAbs ≤ 10000 := by omega
  have h3 : (x * y).natAbs ≤ 10000 * 10000 := by rw [Int.natAbs_mul]; exact Nat.mul_le_mul h1 h2
  omega
theorem crI_bd {p q : Pt} (hp : (-10000 ≤ p.f0 ∧ p.f0 ≤ 10000) ∧ -10000 ≤ p.f1 ∧ p.f1 ≤ 10000) (hq : (-10000 ≤ q.f0 ∧ q.f0 ≤ 10000) ∧ -10000 ≤ q.f1 ∧ q.f1 ≤ 10000) : -200000000 ≤ crI p q ∧ crI p q ≤ 200000000 := by
  have h1 := mulX hp.1 hq.2
  have h2 := mulX hq.1 hp.2
  unfold crI; omega
theorem crossP_eq {p q : Pt} (hp : (-10000 ≤ p.f0 ∧ p.f0 ≤ 10000) ∧ -10000 ≤ p.f1 ∧ p.f1 ≤ 10000) (hq : (-10000 ≤ q.f0 ∧ q.f0 ≤ 10000) ∧ -10000 ≤ q.f1 ∧ q.f1 ≤ 10000) : crossP p q = crI p q := by
  have h1 := mulX hp.1 hq.2
  have h2 := mulX hq.1 hp.2
  unfold crossP crI
  rw [pw64 (x := p.f0 * q.f1) (by omega) (by omega), pw64 (x := q.f0 * p.f1) (by omega) (by omega), pw64 (by omega) (by omega)]
theorem areaS_sm {l : List Pt} (h : cvB l = true) (j : Nat) (hj : j ≤ l.length) : areaS l j = sm 0 j (fun i => crI (PC l i) (PC l (i + 1))) := by
  have hv := cvB_iff.1 h
  induction j with
  | zero => rfl
  | succ j ih =>
    have e := ih (by omega)
    have b := sm_bd (lo := 0) (k := j) (f := fun i => crI (PC l i) (PC l (i + 1))) (B := 200000000) (fun i _ _ => crI_bd (cv_at h i) (cv_at h (i + 1)))
    have c := crI_bd (cv_at h j) (cv_at h (j + 1))
    rw [areaS, sm, e, PC_nxt, ← PC_at (show j < l.length by omega), crossP_eq (cv_at h j) (cv_at h (j + 1)), pw64 (by omega) (by omega), Nat.zero_add]
theorem areaS_eq {l : List Pt} (h : cvB l = true) : areaS l l.length = area2 l := areaS_sm h _ (Nat.le_refl _)
/-! lists begun elsewhere -/
/-! the opposite order -/
theorem PC_back {l : List Pt} {i : Nat} (hi : i ≤ l.length) : PC (backL l) i = PC l (l.length - i) := by
  cases l with
  | nil => simp [PC, backL, at_]
  | cons p l =>
    have hlen : (backL (p :: l)).length = (p :: l).length := by simp [backL]
    unfold PC
    rw [hlen]
    by_cases h0 : i = 0
    · subst h0
      simp [backL, at_]
    · by_cases h1 : i = (p :: l).length
      · subst h1
        simp [backL, at_]
      · have hi' : i < (p :: l).length := by omega
        rw [Nat.mod_eq_of_lt hi', Nat.mod_eq_of_lt (by omega)]
        obtain ⟨j, rfl⟩ : ∃ j, i = j + 1 := ⟨i - 1, by omega⟩
        simp only [List.length_cons] at hi' ⊢
        rw [show l.length + 1 - (j + 1) = (l.length - 1 - j) + 1 by omega]
        unfold at_ backL
        simp only [List.getD_eq_getElem?_getD, List.getElem?_cons_succ]
        rw [List.getElem?_reverse (by omega)]
theorem area2_back {l : List Pt} : area2 (backL l) = -(area2 l) := by
  have hlen : (backL l).length = l.length := by cases l <;> simp [backL]
  unfold area2
  rw [hlen, ← sm_neg, ← sm_rev l.length (fun i => -(crI (PC l i) (PC l (i + 1))))]
  exact sm_congr (fun j _ hj => by
    rw [PC_back (by omega), PC_back (by omega), ← crI_swap]
    rw [show l.length - 1 - j + 1 = l.length - j by omega, show l.length - 1 - j = l.length - (j + 1) by omega])
/-! turned -/
theorem at_map {f : Pt → Pt} {l : List Pt} {i : Nat} (h : i < l.length) : at_ (l.map f) i = f (at_ l i) := by
  unfold at_
  simp only [List.getD_eq_getElem?_getD, List.getElem?_map, List.getElem?_eq_getElem h, Option.map_some, Option.getD_some]
theorem PC_map {f : Pt → Pt} {l : List Pt} (h0 : 0 < l.length) (i : Nat) : PC (l.map f) i = f (PC l i) := by
  unfold PC; rw [List.length_map, at_map (Nat.mod_lt _ h0)]
/-! what PolyArea answers -/
def areaR (l : List Pt) : Int × Bool := if cvB l = true then (area2 l, true) else (0, false)
theorem implArea_eq (l : List Pt) : impl_PolyArea.f l = some (areaR l) := by
  unfold impl_PolyArea.f areaR
  by_cases h : cvB l = true
  · rw [if_pos h, if_pos h, areaS_eq h]
  · rw [if_neg h, if_neg h]
end Go.Proofs.Ytgdhgncdpmalcaa.Pure
namespace Go.Proofs.Ytgdhgncdpmalcaa.Pure
open Go.RowKit Go.Proofs.Ytgdhgncdpmalcaa.Q Go.Proofs.Ytgdhgncdpmalcaa.Ring Go.Proofs.Ytgdhgncdpmalcaa.Geo Go.Proofs.YtgdhgncdpmalcaaW.PrintWords Go.Proofs.YtgdhgncdpmalcaaW.PrintLast
def opp (x y : Int) : Prop := (0 < x ∧ y < 0) ∨ (x < 0 ∧ 0 < y)
/-- Two segments have a point in common. -/
def meetI (ax ay bx b_y cx cy dx dy : Int) : Prop := onP ax ay bx b_y cx cy ∨ onP ax ay bx b_y dx dy ∨ onP cx cy dx dy ax ay ∨ onP cx cy dx dy bx b_y ∨
  (opp (crs ax ay bx b_y cx cy) (crs ax ay bx b_y dx dy) ∧ opp (crs cx cy dx dy ax ay) (crs cx cy dx dy bx b_y))
structure SimpI (n : Nat) (X Y : Nat → Int) : Prop where
  n3 : 3 ≤ n
  px : ∀ i, X (i + n) = X i
  py : ∀ i, Y (i + n) = Y i
  dist : ∀ i j, i < n → j < n → X i = X j → Y i = Y j → i = j
  fold : ∀ i, ¬ onP (X i) (Y i) (X (i + 1)) (Y (i + 1)) (X (i + 2)) (Y (i + 2)) ∧ ¬ onP (X (i + 1)) (Y (i + 1)) (X (i + 2)) (Y (i + 2)) (X i) (Y i)
  meet : ∀ i j, i + 2 ≤ j → j + 2 ≤ i + n → ¬ meetI (X i) (Y i) (X (i + 1)) (Y (i + 1)) (X j) (Y j) (X (j + 1)) (Y (j + 1))
/-! the points of a list -/
def XX (l : List Pt) (i : Nat) : Int := (PC l i).f0
def YY (l : List Pt) (i : Nat) : Int := (PC l i).f1
theorem pvp {l : List Pt} (h : cvB l = true) (i : Nat) : PVP (PC l i) := by
  have := cv_at h i
  exact PV_iff.2 ⟨this.1.1, this.1.2, this.2.1, this.2.2⟩
theorem on_iff {p q r : Pt} (hp : PVP p) (hq : PVP q) (hr : PVP r) : onPt p q r = true ↔ onP p.f0 p.f1 q.f0 q.f1 r.f0 r.f1 := by
  unfold onPt onR
  rw [decide_eq_true_eq]
  exact ⟨fun h => h.2.2.2, fun h => ⟨hp, hq, hr, h⟩⟩
theorem on_no {p q r : Pt} (hp : PVP p) (hq : PVP q) (hr : PVP r) : onPt p q r = false ↔ ¬ onP p.f0 p.f1 q.f0 q.f1 r.f0 r.f1 := by
  rw [← on_iff hp hq hr, Bool.not_eq_true]
theorem sgn_eq {p q r : Pt} (hp : PVP p) (hq : PVP q) (hr : PVP r) : sgnP p q r = sgn (crs p.f0 p.f1 q.f0 q.f1 r.f0 r.f1) := by
  unfold sgnP; rw [sideR_yes hp hq hr]
theorem sgn_opp (x y : Int) : sgn x * sgn y < 0 ↔ opp x y := by
  unfold sgn opp
  split <;> split <;> (try split) <;> (try split) <;> first | omega | (simp; omega)
theorem meet_iff {a b c d : Pt} (ha : PVP a) (hb : PVP b) (hc : PVP c) (hd : PVP d) : meetPt a b c d = true ↔ meetI a.f0 a.f1 b.f0 b.f1 c.f0 c.f1 d.f0 d.f1 := by
  unfold meetPt meetI
  simp only [Bool.or_eq_true, Bool.and_eq_true, decide_eq_true_eq]
  rw [on_iff ha hb hc, on_iff ha hb hd, on_iff hc hd ha, on_iff hc hd hb, sgn_eq ha hb hc, sgn_eq ha hb hd, sgn_eq hc hd ha, sgn_eq hc hd hb, sgn_opp, sgn_opp]
  simp only [or_assoc]
theorem meet_no {a b c d : Pt} (ha : PVP a) (hb : PVP b) (hc : PVP c) (hd : PVP d) : meetPt a b c d = false ↔ ¬ meetI a.f0 a.f1 b.f0 b.f1 c.f0 c.f1 d.f0 d.f1 := by
  rw [← meet_iff ha hb hc hd, Bool.not_eq_true]
theorem PC_mod (l : List Pt) (i : Nat) : PC l (i % l.length) = PC l i := by unfold PC; rw [Nat.mod_mod]
theorem PC_mod1 (l : List Pt) (i d : Nat) : PC l (i % l.length + d) = PC l (i + d) := by unfold PC; rw [Nat.mod_add_mod]
theorem pt_eq {p q : Pt} (h0 : p.f0 = q.f0) (h1 : p.f1 = q.f1) : p = q := by
  obtain ⟨a, b⟩ := p; obtain ⟨c, d⟩ := q
  dsimp only at h0 h1; rw [h0, h1]
theorem same_no {p q : Pt} : sameP p q = false ↔ p ≠ q := by
  rw [← Bool.not_eq_true, sameP_iff]
  exact ⟨fun h e => h (by rw [e]; exact ⟨rfl, rfl⟩), fun h e => h (pt_eq e.1 e.2)⟩
theorem simp_iff {l : List Pt} (h : cvB l = true) : simpleB l = true ↔ SimpI l.length (XX l) (YY l) := by
  have hv := cvB_iff.1 h
  have pv := pvp h
  have at0 : ∀ i, i < l.length → at_ l i = PC l i := fun i hi => (PC_at hi).symm
  have atm : ∀ i, at_ l (i % l.length) = PC l i := fun i => rfl
  have nx : ∀ i, nxt l i = PC l (i + 1) := fun i => rfl
  have nxm : ∀ i d, nxt l ((i + d) % l.length) = PC l (i + d + 1) := fun i d => by rw [nx, PC_mod1]
  rw [simple_iff]
  constructor
  · rintro ⟨h1, h2⟩
    refine ⟨by omega, fun i => by unfold XX; rw [PC_per], fun i => by unfold YY; rw [PC_per], ?_, fun i => ?_, fun i j hi hj => ?_⟩
    · have key : ∀ i j, i < l.length → j < l.length → i < j → PC l i = PC l j → False := by
        intro i j hi hj hij e
        have := h1 i hi (j - i - 1) (by omega)
        unfold dupAt at this
        rw [show i + 1 + (j - i - 1) = j by omega, atm, at0 i hi, same_no] at this
        exact this e.symm
      intro i j hi hj e0 e1
      have e : PC l i = PC l j := pt_eq e0 e1
      rcases Nat.lt_trichotomy i j with q | q | q
      · exact (key i j hi hj q e).elim
      · exact q
      · exact (key j i hj hi q e.symm).elim
    · have := (h2 (i % l.length) (Nat.mod_lt _ (by omega))).1
      unfold foldAt at this
      rw [Bool.or_eq_false_iff, atm, nx, nxm, PC_mod1] at this
      rw [show i % l.length + 1 + 1 = i % l.length + 2 from rfl, PC_mod1] at this
      exact ⟨(on_no (pv _) (pv _) (pv _)).1 this.1, (on_no (pv _) (pv _) (pv _)).1 this.2⟩
    · have := (h2 (i % l.length) (Nat.mod_lt _ (by omega))).2 (j - i - 2) (by omega)
      unfold meetAt at this
      rw [atm, nx, PC_mod1, nxm, atm] at this
      rw [show i % l.length + 2 + (j - i - 2) + 1 = i % l.length + (j - i + 1) by omega, show i % l.length + 2 + (j - i - 2) = i % l.length + (j - i) by omega, PC_mod1, PC_mod1,
        show i + (j - i + 1) = j + 1 by omega, show i + (j - i) = j by omega] at this
      exact (meet_no (pv _) (pv _) (pv _) (pv _)).1 this
  · intro H
    refine ⟨fun i hi t ht => ?_, fun i hi => ⟨?_, fun t ht => ?_⟩⟩
    · unfold dupAt
      rw [atm, at0 i hi, same_no]
      intro e
      have hm := Nat.mod_lt (i + 1 + t) (show 0 < l.length by omega)
      rw [← PC_mod] at e
      have := H.dist _ _ hm hi (by unfold XX; rw [e]) (by unfold YY; rw [e])
      by_cases c : i + 1 + t < l.length
      · rw [Nat.mod_eq_of_lt c] at this; omega
      · rw [show i + 1 + t = (i + 1 + t - l.length) + l.length by omega, Nat.add_mod_right, Nat.mod_eq_of_lt (by omega)] at this
        omega
    · unfold foldAt
      rw [at0 i hi, nx, nxm, Bool.or_eq_false_iff]
      have := H.fold i
      exact ⟨(on_no (pv _) (pv _) (pv _)).2 this.1, (on_no (pv _) (pv _) (pv _)).2 this.2⟩
    · unfold meetAt
      rw [at0 i hi, nx, nxm, atm]
      exact (meet_no (pv _) (pv _) (pv _) (pv _)).2 (H.meet i (i + 2 + t) (by omega) (by omega))
theorem okS_iff {l : List Pt} : okS l = true ↔ cvB l = true ∧ SimpI l.length (XX l) (YY l) := by
  unfold okS
  rw [Bool.and_eq_true]
  exact ⟨fun h => ⟨h.1, (simp_iff h.1).1 h.2⟩, fun h => ⟨h.1, (simp_iff h.1).2 h.2⟩⟩
/-! another beginning, the other way round, a shift, a turn -/
theorem modp {n : Nat} {X : Nat → Int} (px : ∀ i, X (i + n) = X i) (i : Nat) : X (i % n) = X i := by
  have : ∀ k, X (i % n + n * k) = X (i % n) := by
    intro k
    induction k with
    | zero => rfl
    | succ k ih => rw [Nat.mul_succ, ← Nat.add_assoc, px, ih]
  have e := this (i / n)
  rw [Nat.mod_add_div] at e
  exact e.symm
theorem SimpI.shift {n : Nat} {X Y : Nat → Int} (h : SimpI n X Y) (k : Nat) : SimpI n (fun i => X (i + k)) (fun i => Y (i + k)) := by
  have n3 := h.n3
  refine ⟨h.n3, fun i => by rw [show i + n + k = i + k + n by omega, h.px], fun i => by rw [show i + n + k = i + k + n by omega, h.py], fun i j hi hj e0 e1 => ?_, fun i => ?_, fun i j hi hj => ?_⟩
  · rw [← modp h.px (i + k), ← modp h.px (j + k)] at e0
    rw [← modp h.py (i + k), ← modp h.py (j + k)] at e1
    have := h.dist _ _ (Nat.mod_lt _ (by omega)) (Nat.mod_lt _ (by omega)) e0 e1
    have a := Nat.div_add_mod (i + k) n
    have b := Nat.div_add_mod (j + k) n
    rw [this] at a
    rcases Nat.lt_trichotomy i j with q | q | q
    · exfalso
      rcases Nat.lt_or_ge ((i + k) / n) ((j + k) / n) with c | c
      · have : n * ((i + k) / n + 1) ≤ n * ((j + k) / n) := Nat.mul_le_mul_left _ c
        rw [Nat.mul_succ] at this; omega
      · have : n * ((j + k) / n) ≤ n * ((i + k) / n) := Nat.mul_le_mul_left _ c
        omega
    · exact q
    · exfalso
      rcases Nat.lt_or_ge ((j + k) / n) ((i + k) / n) with c | c
      · have : n * ((j + k) / n + 1) ≤ n * ((i + k) / n) := Nat.mul_le_mul_left _ c
        rw [Nat.mul_succ] at this; omega
      · have : n * ((i + k) / n) ≤ n * ((j + k) / n) := Nat.mul_le_mul_left _ c
        omega
  · have := h.fold (i + k)
    rw [show i + k + 1 = i + 1 + k by omega, show i + k + 2 = i + 2 + k by omega] at this
    exact this
  · have := h.meet (i + k) (j + k) (by omega) (by omega)
    rw [show i + k + 1 = i + 1 + k by omega, show j + k + 1 = j + 1 + k by omega] at this
    exact this
theorem SimpI.congr {n : Nat} {X Y X' Y' : Nat → Int} (h : SimpI n X Y) (hx : ∀ i, X' i = X i) (hy : ∀ i, Y' i = Y i) : SimpI n X' Y' := by
  have e1 : X' = X := funext hx
  have e2 : Y' = Y := funext hy
  rw [e1, e2]; exact h
/-- A map of points that keeps what lies where. -/
structure Rigid (f : Int → Int → Int × Int) : Prop where
  inj : ∀ a b c d, f a b = f c d → a = c ∧ b = d
  crs : ∀ a b c d e g, crs (f a b).1 (f a b).2 (f c d).1 (f c d).2 (f e g).1 (f e g).2 = crs a b c d e g
  on : ∀ a b c d e g, onP (f a b).1 (f a b).2 (f c d).1 (f c d).2 (f e g).1 (f e g).2 ↔ onP a b c d e g
theorem SimpI.map {n : Nat} {X Y : Nat → Int} (h : SimpI n X Y) {f : Int → Int → Int × Int} (hf : Rigid f) : SimpI n (fun i => (f (X i) (Y i)).1) (fun i => (f (X i) (Y i)).2) := by
  refine ⟨h.n3, fun i => by rw [h.px, h.py], fun i => by rw [h.px, h.py], fun i j hi hj e0 e1 => ?_, fun i => ?_, fun i j hi hj => ?_⟩
  · have := hf.inj _ _ _ _ (Prod.ext e0 e1)
    exact h.dist i j hi hj this.1 this.2
  · rw [hf.on, hf.on]; exact h.fold i
  · have := h.meet i j hi hj
    unfold meetI at this ⊢
    rw [hf.on, hf.on, hf.on, hf.on, hf.crs, hf.crs, hf.crs, hf.crs]
    exact this
theorem rigid_shift (s t : Int) : Rigid (fun x y => (x + s, y + t)) := by
  have e : ∀ a b c d e g : Int, Pure.crs (a + s) (b + t) (c + s) (d + t) (e + s) (g + t) = Pure.crs a b c d e g := by
    intro a b c d e g; unfold Pure.crs
    rw [show c + s - (a + s) = c - a by omega, show g + t - (b + t) = g - b by omega, show d + t - (b + t) = d - b by omega, show e + s - (a + s) = e - a by omega]
  refine ⟨fun a b c d h => by injection h with h1 h2; omega, e, fun a b c d e' g => ?_⟩
  dsimp only
  unfold onP
  rw [e]
  constructor <;> intro h <;> omega
end Go.Proofs.Ytgdhgncdpmalcaa.Pure
namespace Go.Proofs.Ytgdhgncdpmalcaa.Pure
open Go.RowKit Go.Proofs.Ytgdhgncdpmalcaa.Q Go.Proofs.Ytgdhgncdpmalcaa.Ring Go.Proofs.YtgdhgncdpmalcaaW.PrintWords Go.Proofs.YtgdhgncdpmalcaaW.PrintLast
theorem okP_cv {l : List Pt} (c : okP l = true) : cvB l = true := by
  unfold okP at c
  have := ((Bool.and_eq_true _ _).mp c).1
  unfold okS at this
  exact ((Bool.and_eq_true _ _).mp this).1
theorem implPValid_eq (l : List Pt) : impl_ParcelValid.f l = some (okP l) := by unfold impl_ParcelValid.f; cases okP l <;> rfl
theorem specPValid_eq {l : List Pt} (h : l.length ≤ 1048576) (k : Nat) (hk : l.length < k) : spec_ParcelValid.f k l = some (okP l) := by
  unfold spec_ParcelValid.f
  rw [show spec_PolyValid.f l = some (okS l) from if_pos h]
  simp only [Option.bind_some]
  unfold okP
  by_cases c : okS l = true
  · rw [if_pos c, spec_l31Area.f, show spec_l31Area.l0 k l 0 0 = some (areaS l l.length) from Area_l0 h l.length 0 k (by omega) hk, c]
    rfl
  · rw [if_neg c, Bool.eq_false_iff.2 c]; rfl
end Go.Proofs.Ytgdhgncdpmalcaa.Pure
namespace Go.Proofs.Ytgdhgncdpmalcaa.Pure
open Go.RowKit Go.Proofs.Ytgdhgncdpmalcaa.Q Go.Proofs.YtgdhgncdpmalcaaW.PrintWords Go.Proofs.YtgdhgncdpmalcaaW.PrintLast Go.Proofs.YtgdhgncdpmalcaaW.PrintMore

theorem rw64 {x : Int} (h0 : -9223372036854775808 ≤ x) (h1 : x ≤ 9223372036854775807) : wrap64 x = x := by
  unfold wrap64; omega

theorem xor_nonneg (x y : Int) (hx : 0 ≤ x) (hx' : x < 2 ^ 62) (hy : 0 ≤ y) (hy' : y < 2 ^ 62) : 0 ≤ Go.bits .xor .i64 x y := by
  obtain ⟨a, rfl⟩ : ∃ a : Nat, x = a := ⟨x.toNat, by omega⟩
  obtain ⟨b, rfl⟩ : ∃ b : Nat, y = b := ⟨y.toNat, by omega⟩
  have ha : a < 2 ^ 62 := by omega
  have hb : b < 2 ^ 62 := by omega
  have ha' : a % 2 ^ 64 = a := Nat.mod_eq_of_lt (by omega)
  have hb' : b % 2 ^ 64 = b := Nat.mod_eq_of_lt (by omega)
  have h := Nat.xor_lt_two_pow ha hb
  have e : Go.bits .xor .i64 (a : Int) (b : Int) = ((a ^^^ b : Nat) : Int) := by
    have e0 : Go.bits .xor .i64 (a : Int) (b : Int) = IntKind.i64.wrap ((BitVec.ofInt 64 (a : Int) ^^^ BitVec.ofInt 64 (b : Int)).toNat : Int) := rfl
    rw [e0, BitVec.ofInt_natCast, BitVec.ofInt_natCast, BitVec.toNat_xor, BitVec.toNat_ofNat, BitVec.toNat_ofNat, ha', hb', IntKind.wrap_i64]
    omega
  rw [e]
  exact Int.natCast_nonneg _

/-- All numbers of a list are bytes. -/
def Bts (b : List Int) : Prop := b.length ≤ 2000 ∧ ∀ x ∈ b, 0 ≤ x ∧ x ≤ 255
theorem Bts.at_ {b : List Int} (h : Bts b) (i : Int) : 0 ≤ rd b i ∧ rd b i ≤ 255 := by
  unfold rd
  by_cases hi : i.toNat < b.length
  · rw [List.getD_eq_getElem?_getD, List.getElem?_eq_getElem hi]; exact h.2 _ (List.getElem_mem hi)
  · rw [List.getD_eq_getElem?_getD, List.getElem?_eq_none (by omega)]; simp

theorem pick_ok (k : Nat) {b : List Int} {p n : Int} (hb : Bts b) (hp : 0 ≤ p ∧ p ≤ 1000000) (hn : 1 ≤ n) :
    ∃ v, spec_l6Rd_pick.f (k + 1) b p n = some (v, p + 1) ∧ 0 ≤ v ∧ v < n := by
  unfold spec_l6Rd_pick.f
  rw [if_neg (by omega), rw64 (x := p + 1) (by omega) (by omega)]
  simp only [spec_l6Rd_pick.j0]
  by_cases h0 : (b.length : Int) = 0
  · exact ⟨0, by rw [if_pos (by simpa using h0)], by omega, by omega⟩
  · rw [if_neg (by simpa using h0), show p + 1 - 1 = p by omega, rw64 (x := p) (by omega) (by omega)]
    have hlen : 0 < (b.length : Int) := by omega
    have hL := hb.1
    by_cases h1 : p < (b.length : Int)
    · rw [if_pos h1, if_pos hp.1, if_neg (by omega)]
      have hr := hb.at_ p
      rw [rw64 (by omega) (by omega), Int.tmod_eq_emod_of_nonneg hr.1]
      exact ⟨_, rfl, Int.emod_nonneg _ (by omega), Int.emod_lt_of_pos _ (by omega)⟩
    · rw [if_neg h1, if_neg h0]
      have q0 : 0 ≤ Int.tmod p (b.length : Int) := by rw [Int.tmod_eq_emod_of_nonneg hp.1]; exact Int.emod_nonneg _ (by omega)
      have q1 : Int.tmod p (b.length : Int) < (b.length : Int) := by rw [Int.tmod_eq_emod_of_nonneg hp.1]; exact Int.emod_lt_of_pos _ hlen
      rw [rw64 (x := p * 7) (by omega) (by omega), rw64 (x := p * 7 + 3) (by omega) (by omega)]
      have q2 : 0 ≤ Int.tmod (p * 7 + 3) (b.length : Int) := by rw [Int.tmod_eq_emod_of_nonneg (by omega)]; exact Int.emod_nonneg _ (by omega)
      have q3 : Int.tmod (p * 7 + 3) (b.length : Int) < (b.length : Int) := by rw [Int.tmod_eq_emod_of_nonneg (by omega)]; exact Int.emod_lt_of_pos _ hlen
      rw [if_pos q0, if_pos q1, if_pos q2, if_pos q3, if_neg (by omega)]
      have hr := hb.at_ (Int.tmod p (b.length : Int))
      have hs := hb.at_ (Int.tmod (p * 7 + 3) (b.length : Int))
      have hd : 0 ≤ Int.tdiv p (b.length : Int) ∧ Int.tdiv p (b.length : Int) ≤ p := by
        rw [Int.tdiv_eq_ediv_of_nonneg hp.1]
        exact ⟨Int.ediv_nonneg hp.1 (by omega), Int.ediv_le_self _ hp.1⟩
      generalize rd b (Int.tmod p (b.length : Int)) = u at *
      generalize rd b (Int.tmod (p * 7 + 3) (b.length : Int)) = v at *
      generalize Int.tdiv p (b.length : Int) = d at *
      rw [rw64 (x := u) (by omega) (by omega), rw64 (x := v) (by omega) (by omega), rw64 (x := u * 131) (by omega) (by omega), rw64 (x := v * 1117) (by omega) (by omega),
        rw64 (x := u * 131 + v * 1117) (by omega) (by omega), rw64 (x := p * 29) (by omega) (by omega), rw64 (x := u * 131 + v * 1117 + p * 29) (by omega) (by omega),
        rw64 (x := d) (by omega) (by omega), rw64 (x := d * 53) (by omega) (by omega), rw64 (x := u * 131 + v * 1117 + p * 29 + d * 53) (by omega) (by omega)]
      have hx : 0 ≤ u * 131 + v * 1117 + p * 29 + d * 53 := by omega
      have hx' : u * 131 + v * 1117 + p * 29 + d * 53 < 2 ^ 60 := by omega
      generalize u * 131 + v * 1117 + p * 29 + d * 53 = x at *
      have hy : 0 ≤ Int.tdiv x 64 ∧ Int.tdiv x 64 < 2 ^ 60 := by rw [Int.tdiv_eq_ediv_of_nonneg hx]; omega
      rw [rw64 (x := Int.tdiv x 64) (by omega) (by omega)]
      have hz := xor_nonneg x (Int.tdiv x 64) hx (by omega) hy.1 (by omega)
      rw [Int.tmod_eq_emod_of_nonneg hz]
      exact ⟨_, rfl, Int.emod_nonneg _ (by omega), Int.emod_lt_of_pos _ (by omega)⟩

theorem open_ok {l : List Int} (hl : ∀ x ∈ l, (Lit.int .u8 x).wf = true) : ∃ b, spec_l6Open.f l = some (b, 0) ∧ Bts b := by
  have hb : ∀ x ∈ l, 0 ≤ x ∧ x ≤ 255 := fun x hx => by
    have := hl x hx
    simp [Lit.wf, IntKind.min, IntKind.max, IntKind.signed, IntKind.bits] at this
    omega
  unfold spec_l6Open.f
  by_cases h : (l.length : Int) > 2000
  · rw [if_pos h, if_pos (by omega)]
    exact ⟨_, rfl, by rw [List.length_take]; omega, fun x hx => hb x (List.mem_of_mem_take hx)⟩
  · rw [if_neg h]
    exact ⟨_, rfl, by omega, hb⟩
end Go.Proofs.Ytgdhgncdpmalcaa.Pure
namespace Go.Proofs.Ytgdhgncdpmalcaa.Pure
open Go.RowKit Go.Proofs.Ytgdhgncdpmalcaa.Q Go.Proofs.YtgdhgncdpmalcaaW.PrintWords Go.Proofs.YtgdhgncdpmalcaaW.PrintLast Go.Proofs.YtgdhgncdpmalcaaW.PrintMore

theorem l91Point_ok (k : Nat) {b : List Int} {p : Int} (hb : Bts b) (hp : 0 ≤ p ∧ p ≤ 100000) :
    ∃ x y q, spec_l91Point.f (k + 1) b p = some (x, y, q) ∧ p ≤ q ∧ q ≤ p + 5 ∧ -10001 ≤ x ∧ x ≤ 10001 ∧ -10001 ≤ y ∧ y ≤ 10001 := by
  unfold spec_l91Point.f
  obtain ⟨v1, h1, _, _⟩ := pick_ok k hb (p := p) (n := 13) (by omega) (by omega)
  obtain ⟨v2, h2, _, _⟩ := pick_ok k hb (p := p + 1) (n := 13) (by omega) (by omega)
  obtain ⟨v3, h3, _, _⟩ := pick_ok k hb (p := p + 1 + 1) (n := 40) (by omega) (by omega)
  rw [h1]; simp only [Option.bind_some]
  rw [h2]; simp only [Option.bind_some]
  rw [h3]; simp only [Option.bind_some]
  rw [rw64 (x := v1 - 6) (by omega) (by omega), rw64 (x := v2 - 6) (by omega) (by omega)]
  by_cases e0 : v3 = 0
  · rw [if_pos e0]
    obtain ⟨v4, h4, _, _⟩ := pick_ok k hb (p := p + 1 + 1 + 1) (n := 3) (by omega) (by omega)
    rw [h4]; simp only [Option.bind_some]
    rw [if_pos (by omega), if_pos (by simp; omega)]
    refine ⟨_, _, _, rfl, by omega, by omega, ?_⟩
    have : v4 = 0 ∨ v4 = 1 ∨ v4 = 2 := by omega
    rcases this with rfl | rfl | rfl <;> refine ⟨by decide, by decide, by omega, by omega⟩
  · rw [if_neg e0]
    by_cases e1 : v3 = 1
    · rw [if_pos e1]
      obtain ⟨v4, h4, _, _⟩ := pick_ok k hb (p := p + 1 + 1 + 1) (n := 200) (by omega) (by omega)
      obtain ⟨v5, h5, _, _⟩ := pick_ok k hb (p := p + 1 + 1 + 1 + 1) (n := 200) (by omega) (by omega)
      rw [h4]; simp only [Option.bind_some]
      rw [h5]; simp only [Option.bind_some]
      rw [rw64 (x := v4 * 50) (by omega) (by omega), rw64 (x := v5 * 50) (by omega) (by omega), rw64 (x := v4 * 50 - 5000) (by omega) (by omega), rw64 (x := v5 * 50 - 5000) (by omega) (by omega)]
      exact ⟨_, _, _, rfl, by omega, by omega, by omega, by omega, by omega, by omega⟩
    · rw [if_neg e1]
      exact ⟨_, _, _, rfl, by omega, by omega, by omega, by omega, by omega, by omega⟩

end Go.Proofs.Ytgdhgncdpmalcaa.Pure
namespace Go.Proofs.Ytgdhgncdpmalcaa.Pure
open Go.RowKit Go.Proofs.Ytgdhgncdpmalcaa.Q Go.Proofs.YtgdhgncdpmalcaaW.PrintWords Go.Proofs.YtgdhgncdpmalcaaW.PrintLast Go.Proofs.YtgdhgncdpmalcaaW.PrintMore
theorem l92Box_ok (k : Nat) {b : List Int} {p : Int} (hb : Bts b) (hp : 0 ≤ p ∧ p ≤ 100000) : ∃ l q, spec_l92Box.f (k + 2) b p = some (l, q) ∧ p ≤ q ∧ q ≤ p + 10 ∧ l.length ≤ 12 := by
  unfold spec_l92Box.f
  obtain ⟨v1, h1, _, _⟩ := pick_ok (k + 1) hb (p := p) (n := 5) (by omega) (by omega)
  obtain ⟨v2, h2, _, _⟩ := pick_ok (k + 1) hb (p := p + 1) (n := 5) (by omega) (by omega)
  obtain ⟨v3, h3, _, _⟩ := pick_ok (k + 1) hb (p := p + 1 + 1) (n := 5) (by omega) (by omega)
  obtain ⟨v4, h4, _, _⟩ := pick_ok (k + 1) hb (p := p + 1 + 1 + 1) (n := 5) (by omega) (by omega)
  rw [h1]; simp only [Option.bind_some]
  rw [h2]; simp only [Option.bind_some]
  rw [h3]; simp only [Option.bind_some]
  rw [h4]; simp only [Option.bind_some]
  have j : ∀ (x y : Int) (l : List Pt) (c : Bool) (r : Int), l.length = 4 → p ≤ r → r ≤ p + 8 → ∃ l' q, spec_l92Box.j0 (k + 2) x y l c b r = some (l', q) ∧ p ≤ q ∧ q ≤ p + 10 ∧ l'.length ≤ 12 := by
    intro x y l c r hl h0 h8
    obtain ⟨v5, h5, _, _⟩ := pick_ok k hb (p := r) (n := 3) (by omega) (by omega)
    cases c
    · rw [spec_l92Box.j0, if_neg (by decide), h5]
      simp only [Option.bind_some]
      by_cases e : v5 = 0
      · rw [if_pos e, if_pos (by omega)]; exact ⟨_, _, rfl, by omega, by omega, by simp; omega⟩
      · rw [if_neg e]; exact ⟨_, _, rfl, by omega, by omega, by omega⟩
    · rw [spec_l92Box.j0, if_pos rfl, Option.bind_some, if_pos (by omega), Option.bind_some, if_pos (by simp; omega), Option.bind_some, h5]
      simp only [Option.bind_some]
      by_cases e : v5 = 0
      · rw [if_pos e, if_pos (by simp; omega)]; exact ⟨_, _, rfl, by omega, by omega, by simp; omega⟩
      · rw [if_neg e]; exact ⟨_, _, rfl, by omega, by omega, by simp; omega⟩
  by_cases e : wrap64 (1 + v3) > 1
  · rw [if_pos e]
    obtain ⟨v5, h5, _, _⟩ := pick_ok (k + 1) hb (p := p + 1 + 1 + 1 + 1) (n := 2) (by omega) (by omega)
    rw [h5]; simp only [Option.bind_some]
    exact j _ _ _ _ _ rfl (by omega) (by omega)
  · rw [if_neg e]
    exact j _ _ _ _ _ rfl (by omega) (by omega)
theorem l92Star_l0 {b : List Int} (hb : Bts b) {s : List Pt} (hs : s.length ≤ 12) (n : Nat) : ∀ (i : Nat) (x : List Pt) (p : Int) (k : Nat), i + n = s.length → n < k → x.length ≤ i → 0 ≤ p → p + 2 * n ≤ 100000 →
    ∃ l q, spec_l92Star.l0 k s x (i : Int) b p = some (l, q) ∧ p ≤ q ∧ q ≤ p + 2 * n ∧ l.length ≤ x.length + n := by
  induction n with
  | zero =>
    intro i x p k hi hk _ _ _
    obtain ⟨k, rfl⟩ : ∃ m, k = m + 1 := ⟨k - 1, by omega⟩
    exact ⟨x, p, by rw [spec_l92Star.l0, if_neg (by omega)], by omega, by omega, by omega⟩
  | succ n ih =>
    intro i x p k hi hk hx h0 hp
    obtain ⟨k, rfl⟩ : ∃ m, k = m + 2 := ⟨k - 2, by omega⟩
    have hw : wrap64 ((i : Int) + 1) = ((i + 1 : Nat) : Int) := by rw [pw64 (by omega) (by omega)]; omega
    rw [spec_l92Star.l0, if_pos (by omega)]
    obtain ⟨v1, h1, _, _⟩ := pick_ok k hb (p := p) (n := 3) (by omega) (by omega)
    by_cases e : Int.tmod (i : Int) 4 = 0
    · rw [if_pos e, h1]
      simp only [Option.bind_some]
      rw [if_pos (by omega), if_pos (by omega), hw]
      obtain ⟨l, q, e1, e2, e3, e4⟩ := ih (i + 1) (x ++ [(⟨wrap64 ((wrap64 (1 + v1)) * ((rd_T32 s (i : Int)).f0)), wrap64 ((wrap64 (1 + v1)) * ((rd_T32 s (i : Int)).f1))⟩ : Pt)]) (p + 1) (k + 1) (by omega) (by omega) (by simp; omega) (by omega) (by omega)
      exact ⟨l, q, e1, by omega, by omega, by simp at e4; omega⟩
    · rw [if_neg e, h1]
      simp only [Option.bind_some]
      by_cases e' : v1 = 0
      · obtain ⟨v2, h2, _, _⟩ := pick_ok k hb (p := p + 1) (n := 3) (by omega) (by omega)
        rw [if_pos e', h2]
        simp only [Option.bind_some]
        rw [if_pos (by omega), if_pos (by omega), hw]
        obtain ⟨l, q, e1, e2, e3, e4⟩ := ih (i + 1) (x ++ [(⟨wrap64 ((wrap64 (1 + v2)) * ((rd_T32 s (i : Int)).f0)), wrap64 ((wrap64 (1 + v2)) * ((rd_T32 s (i : Int)).f1))⟩ : Pt)]) (p + 1 + 1) (k + 1) (by omega) (by omega) (by simp; omega) (by omega) (by omega)
        exact ⟨l, q, e1, by omega, by omega, by simp at e4; omega⟩
      · rw [if_neg e', hw]
        obtain ⟨l, q, e1, e2, e3, e4⟩ := ih (i + 1) x (p + 1) (k + 1) (by omega) (by omega) (by omega) (by omega) (by omega)
        exact ⟨l, q, e1, by omega, by omega, by omega⟩
theorem l92Star_ok (k : Nat) {b : List Int} {p : Int} (hb : Bts b) (hp : 0 ≤ p ∧ p ≤ 10000) : ∃ l q, spec_l92Star.f (k + 20) b p = some (l, q) ∧ p ≤ q ∧ q ≤ p + 24 ∧ l.length ≤ 12 := by
  obtain ⟨l, q, e1, e2, e3, e4⟩ := l92Star_l0 hb (s := [(⟨2, 0⟩ : Pt), (⟨2, 1⟩ : Pt), (⟨1, 2⟩ : Pt), (⟨0, 2⟩ : Pt), (⟨(-1), 2⟩ : Pt), (⟨(-2), 1⟩ : Pt), (⟨(-2), 0⟩ : Pt), (⟨(-2), (-1)⟩ : Pt), (⟨(-1), (-2)⟩ : Pt), (⟨0, (-2)⟩ : Pt), (⟨1, (-2)⟩ : Pt), (⟨2, (-1)⟩ : Pt)]) (by decide) 12 0 [] p (k + 20) rfl (by omega) (by simp) (by omega) (by omega)
  exact ⟨l, q, e1, by omega, by omega, by simpa using e4⟩
theorem l92Poly_l0 {b : List Int} (hb : Bts b) {m : Int} (n : Nat) : ∀ (i : Int) (x : List Pt) (p : Int) (k : Nat), i + n = m → n < k → (x.length : Int) ≤ i → m ≤ 12 → 0 ≤ i → 0 ≤ p → p + 5 * n ≤ 100000 →
    ∃ l q, spec_l92Poly.l0 k x m i b p = some (l, q) ∧ p ≤ q ∧ q ≤ p + 5 * n ∧ l.length ≤ x.length + n := by
  induction n with
  | zero =>
    intro i x p k hi hk _ _ _ _ _
    obtain ⟨k, rfl⟩ : ∃ m, k = m + 1 := ⟨k - 1, by omega⟩
    exact ⟨x, p, by rw [spec_l92Poly.l0, if_neg (by omega)], by omega, by omega, by omega⟩
  | succ n ih =>
    intro i x p k hi hk hx hm hi0 h0 hp
    obtain ⟨k, rfl⟩ : ∃ m, k = m + 2 := ⟨k - 2, by omega⟩
    obtain ⟨u, v, r, h1, h2, h3, _⟩ := l91Point_ok k hb (p := p) (by omega)
    rw [spec_l92Poly.l0, if_pos (by omega), h1]
    simp only [Option.bind_some]
    rw [if_pos (by omega), pw64 (by omega) (by omega)]
    obtain ⟨l, q, e1, e2, e3, e4⟩ := ih (i + 1) (x ++ [(⟨u, v⟩ : Pt)]) r (k + 1) (by omega) (by omega) (by simp; omega) (by omega) (by omega) (by omega) (by omega)
    exact ⟨l, q, e1, by omega, by omega, by simp at e4; omega⟩
theorem backL_length (l : List Pt) : (backL l).length = l.length := by cases l <;> simp [backL]
theorem l92Poly_ok (k : Nat) {b : List Int} {p : Int} (hb : Bts b) (hp : 0 ≤ p ∧ p ≤ 1000) : ∃ l q, spec_l92Poly.f (k + 60) b p = some (l, q) ∧ p ≤ q ∧ q ≤ p + 100 ∧ l.length ≤ 12 := by
  unfold spec_l92Poly.f
  obtain ⟨v1, h1, _, _⟩ := pick_ok (k + 59) hb (p := p) (n := 8) (by omega) (by omega)
  rw [h1]; simp only [Option.bind_some]
  have box : ∃ l q, spec_l92Box.f (k + 60) b (p + 1) = some (l, q) ∧ p + 1 ≤ q ∧ q ≤ p + 1 + 10 ∧ l.length ≤ 12 := l92Box_ok (k + 58) hb (by omega)
  obtain ⟨lb, qb, b1, b2, b3, b4⟩ := box
  by_cases e0 : v1 = 0
  · rw [if_pos e0]
    obtain ⟨v2, h2, _, _⟩ := pick_ok (k + 59) hb (p := p + 1) (n := 6) (by omega) (by omega)
    rw [h2]; simp only [Option.bind_some]
    obtain ⟨l, q, e1, e2, e3, e4⟩ := l92Poly_l0 hb (m := v2) v2.toNat 0 [] (p + 1 + 1) (k + 60) (by omega) (by omega) (by simp) (by omega) (by omega) (by omega) (by omega)
    exact ⟨l, q, e1, by omega, by omega, by simp at e4; omega⟩
  · rw [if_neg e0]
    by_cases e1 : v1 = 1
    · rw [if_pos e1, b1]; exact ⟨_, _, rfl, by omega, by omega, b4⟩
    · rw [if_neg e1]
      by_cases e2 : v1 = 2
      · rw [if_pos e2, b1]; exact ⟨_, _, rfl, by omega, by omega, b4⟩
      · rw [if_neg e2]
        by_cases e3 : v1 = 3
        · rw [if_pos e3, b1]; exact ⟨_, _, rfl, by omega, by omega, b4⟩
        · rw [if_neg e3]
          obtain ⟨l, q, s1, s2, s3, s4⟩ := l92Star_ok (k + 40) hb (p := p + 1) (by omega)
          rw [s1]; simp only [Option.bind_some]
          obtain ⟨v5, h5, _, _⟩ := pick_ok (k + 59) hb (p := q) (n := 5) (by omega) (by omega)
          rw [h5]; simp only [Option.bind_some]
          by_cases e5 : v5 = 0
          · rw [if_pos e5, spec_PolyBack_eq _ l (by omega) (by omega)]
            simp only [Option.bind_some]
            refine ⟨_, _, rfl, by omega, by omega, ?_⟩
            split
            · rw [backL_length]; exact s4
            · simp
          · rw [if_neg e5]; exact ⟨_, _, rfl, by omega, by omega, s4⟩
end Go.Proofs.Ytgdhgncdpmalcaa.Pure
namespace Go.Proofs.Ytgdhgncdpmalcaa.Pure
open Go.RowKit Go.Proofs.Ytgdhgncdpmalcaa.Q Go.Proofs.Ytgdhgncdpmalcaa.Ring Go.Proofs.Ytgdhgncdpmalcaa.Geo Go.Proofs.YtgdhgncdpmalcaaW.PrintWords Go.Proofs.YtgdhgncdpmalcaaW.PrintLast Go.Proofs.YtgdhgncdpmalcaaW.PrintMore
theorem DrawParcelValid_ok (k : Nat) (hk : 100 < k) {bs : List Int} (hbs : ∀ x ∈ bs, (Lit.int .u8 x).wf = true) : ∃ l, spec_DrawParcelValid.f k bs = some l ∧ l.length ≤ 12 := by
  unfold spec_DrawParcelValid.f
  obtain ⟨b, e1, hb⟩ := open_ok hbs
  rw [e1]; simp only [Option.bind_some]
  obtain ⟨k, rfl⟩ : ∃ m, k = m + 60 := ⟨k - 60, by omega⟩
  obtain ⟨l, q, e2, _, _, hl⟩ := l92Poly_ok k hb (p := 0) (by omega)
  rw [e2]
  exact ⟨l, rfl, hl⟩
def sh3 (p : Pt) : Pt := ⟨p.f0 + 3, p.f1 + 3⟩
theorem sh3_all {l : List Pt} (h : (l.map sh3).all ptB = true) (hv : cvB l = true) : cvB (l.map sh3) = true := by
  have h1 := (cvB_iff.1 hv).1
  refine cvB_iff.2 ⟨by rw [List.length_map]; exact h1, fun p hp => ?_⟩
  exact List.all_eq_true.1 h p hp
theorem area2_sh {l : List Pt} (h0 : 0 < l.length) : area2 (l.map sh3) = area2 l := by
  unfold area2
  rw [List.length_map]
  have e : sm 0 l.length (fun i => crI (PC (l.map sh3) i) (PC (l.map sh3) (i + 1))) = sm 0 l.length (fun i => crI (PC l i) (PC l (i + 1)) + ((fun i => 3 * (PC l i).f1 - 3 * (PC l i).f0) (i + 1) - (fun i => 3 * (PC l i).f1 - 3 * (PC l i).f0) i)) :=
    sm_congr (fun j _ _ => by
      rw [PC_map h0, PC_map h0]
      unfold crI sh3
      dsimp only
      rw [Int.add_mul, Int.mul_add, Int.mul_add, Int.add_mul, Int.mul_add, Int.mul_add]
      omega)
  rw [e, sm_add, sm_tele 0 l.length (fun i => 3 * (PC l i).f1 - 3 * (PC l i).f0)]
  have : PC l (0 + l.length) = PC l 0 := PC_per l 0
  rw [this]
  omega
theorem okS_sh {l : List Pt} (h : okS l = true) (hc : cvB (l.map sh3) = true) : okS (l.map sh3) = true := by
  obtain ⟨hv, hs⟩ := okS_iff.1 h
  have h0 := (cvB_iff.1 hv).1
  refine okS_iff.2 ⟨hc, ?_⟩
  rw [List.length_map]
  exact (hs.map (rigid_shift 3 3)).congr (fun i => by unfold XX; rw [PC_map (by omega)]; rfl) (fun i => by unfold YY; rw [PC_map (by omega)]; rfl)
theorem okP_eq {l : List Pt} : okP l = true ↔ okS l = true ∧ 0 < area2 l := by
  unfold okP
  rw [Bool.and_eq_true, decide_eq_true_eq]
  constructor
  · rintro ⟨h1, h2⟩
    rw [areaS_eq (okS_iff.1 h1).1] at h2
    exact ⟨h1, h2⟩
  · rintro ⟨h1, h2⟩
    refine ⟨h1, ?_⟩
    rw [areaS_eq (okS_iff.1 h1).1]; exact h2
theorem okP_back {l : List Pt} (h : okP l = true) : okP (backL l) = false := by
  cases c : okP (backL l)
  · rfl
  · have h1 := (okP_eq.1 h).2
    have h2 := (okP_eq.1 c).2
    rw [area2_back] at h2; omega
theorem okP_sh {l : List Pt} (h : okP l = true) (hg : (l.map sh3).all ptB = true) : okP (l.map sh3) = true := by
  obtain ⟨h1, h2⟩ := okP_eq.1 h
  have hv := (okS_iff.1 h1).1
  have h0 := (cvB_iff.1 hv).1
  exact okP_eq.2 ⟨okS_sh h1 (sh3_all hg hv), by rw [area2_sh (by omega)]; exact h2⟩
theorem Parcel_l0 {l : List Pt} (hv : cvB l = true) {x6 : List Pt} {x7 x9 : Bool} {x8 : Int} (suf : List Pt) : ∀ (pre : List Pt) (k : Nat), suf.length < k → l = pre ++ suf →
    ∃ k', laws_FnParcel.l0 k l x6 x7 x8 x9 (pre.map sh3) ((pre.map sh3).all ptB) (pre.length : Int) = laws_FnParcel.l0 (k' + 1) l x6 x7 x8 x9 (l.map sh3) ((l.map sh3).all ptB) (l.length : Int) := by
  have hc := cvB_iff.1 hv
  induction suf with
  | nil =>
    intro pre k hk he
    obtain ⟨k, rfl⟩ : ∃ m, k = m + 1 := ⟨k - 1, by omega⟩
    rw [List.append_nil] at he
    exact ⟨k, by rw [he]⟩
  | cons y suf ih =>
    intro pre k hk he
    obtain ⟨k, rfl⟩ : ∃ m, k = m + 1 := ⟨k - 1, by omega⟩
    simp only [List.length_cons] at hk
    have hlen : l.length = pre.length + suf.length + 1 := by rw [he]; simp; omega
    have hy := ptB_iff.1 (hc.2 y (by rw [he]; simp))
    have er : rd_T32 l (pre.length : Int) = y := by rw [he]; exact rd_midP pre suf y
    obtain ⟨k', e⟩ := ih (pre ++ [y]) k (by omega) (by rw [he]; simp)
    refine ⟨k', ?_⟩
    rw [← e, laws_FnParcel.l0, if_pos (by omega), if_pos (by omega), er, pw64 (x := y.f0 + 3) (by omega) (by omega), pw64 (x := y.f1 + 3) (by omega) (by omega), next_midP pre y (by omega)]
    rw [show ((⟨y.f0 + 3, y.f1 + 3⟩ : Pt)) = sh3 y from rfl]
    have hx : (pre ++ [y]).map sh3 = pre.map sh3 ++ [sh3 y] := by simp
    rw [hx, List.all_append]
    cases hg : (pre.map sh3).all ptB
    · rw [if_neg (by decide), if_pos (by simp; omega), Bool.false_and]
    · rw [if_pos rfl, show impl_PointValid.f (y.f0 + 3) (y.f1 + 3) = some (ptB (sh3 y)) from impl_PtValid_eq (sh3 y)]
      simp only [Option.bind_some]
      rw [if_pos (by simp; omega), Bool.true_and]
      simp
theorem FnParcel : laws_FnParcel.Pure := by
  intro bs _ _ hbs
  obtain ⟨K, hK⟩ : ∃ K : Nat, K = 10000 := ⟨_, rfl⟩
  refine ⟨K + 2, ?_⟩
  unfold laws_FnParcel.f
  by_cases h1 : (bs.length : Int) > 1048576
  · rw [if_pos h1]
  · rw [if_neg h1]
    obtain ⟨l, e, hl⟩ := DrawParcelValid_ok (K + 2) (by omega) hbs
    rw [e]; simp only [Option.bind_some]
    rw [implPValid_eq, specPValid_eq (by omega) _ (by omega)]
    simp only [Option.bind_some, bne_self_eq_false, Bool.false_eq_true, if_false]
    rw [laws_FnParcel.j0]
    cases c : okP l
    · simp
    · have hv := okP_cv c
      have hs := (okP_eq.1 c)
      have h3 := (cvB_iff.1 hv).1
      rw [Bool.not_true, if_neg (by decide), impl_PolyBack_eq _ _ (by omega), if_pos hv]
      simp only [Option.bind_some]
      rw [implArea_eq]
      simp only [Option.bind_some]
      obtain ⟨k', e0⟩ := Parcel_l0 hv (x6 := backL l) (x7 := true) (x9 := (areaR l).2) (x8 := (areaR l).1) l [] (K + 1) (by omega) rfl
      rw [show ([] : List Pt).map sh3 = [] from rfl, show ([] : List Pt).all ptB = true from rfl, show (([] : List Pt).length : Int) = 0 from rfl] at e0
      have ea : areaR l = (area2 l, true) := if_pos hv
      rw [e0, ea, laws_FnParcel.l0, if_neg (by omega), if_pos rfl, if_pos rfl, if_pos hs.2, show impl_PolyValid.f l = some true from by unfold impl_PolyValid.f; rw [if_pos hs.1]]
      simp only [Option.bind_some, if_true]
      rw [implPValid_eq, okP_back c]
      simp only [Option.bind_some, Bool.false_eq_true, if_false]
      cases hg : (l.map sh3).all ptB
      · rfl
      · rw [if_pos rfl, implPValid_eq, okP_sh c hg]; rfl
end Go.Proofs.Ytgdhgncdpmalcaa.Pure
