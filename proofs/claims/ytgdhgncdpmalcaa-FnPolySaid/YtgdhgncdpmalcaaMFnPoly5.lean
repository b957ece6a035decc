/- Part 5 of what the proof of this law rests on: the functions of the translation as plain Lean functions with their walks, and the plain laws behind. -/
import Derived.Below
import Derived.Test.YtgdhgncdpmalcaaMFnPoly4
namespace Go.Proofs.Ytgdhgncdpmalcaa.Q
open Go.RowKit Go.Proofs.YtgdhgncdpmalcaaW.PrintWords Go.Proofs.YtgdhgncdpmalcaaW.PrintLast Go.Proofs.YtgdhgncdpmalcaaW.PrintMore
attribute [local go_sem] max2_int min2_int max_two min_two max_three min_three max_four min_four
set_option linter.unusedVariables false
set_option linter.unusedSimpArgs false

/-! ### laws_FnPoly: function 4 -/
mutual
def laws_FnPoly.j0 : Nat → List Int → List Int → Bool → Option (Bool)
  | 0, _, _, _ => none
  | k + 1, x0, x1, x21 => if x21 = true then (some true) else ((spec_DrawPolyValid.f k x0).bind fun t319 => ((impl_PolyValid.f t319).bind fun t322 => ((spec_PolyValid.f t319).bind fun t323 => (if (t322 != t323) = true then (laws_FnPoly.j1 k x1 t319 t322 t323 true) else (laws_FnPoly.j1 k x1 t319 t322 t323 (!t322))))))
def laws_FnPoly.j1 : Nat → List Int → List (S32) → Bool → Bool → Bool → Option (Bool)
  | 0, _, _, _, _, _ => none
  | k + 1, x1, x5, x6, x7, x34 => if x34 = true then (some (x6 == x7)) else (if (x5.length : Int) = 0 then (none) else ((impl_PolyBack.f k x5).bind fun bt324 => ((impl_PolyArea.f x5).bind fun bt328 => ((some (([] : List (S32)) : List (S32))).bind fun y330 => (if y330.length + x5.length < 8796093022208 then ((some (y330 ++ x5 : List (S32))).bind fun y333 => (if 0 ≤ ((x1.length : Int) % (x5.length : Int)) then (if ((x1.length : Int) % (x5.length : Int)) < (x5.length : Int) then ((some (([(⟨(rd_T32 x5 ((x1.length : Int) % (x5.length : Int))).f0, (rd_T32 x5 ((x1.length : Int) % (x5.length : Int))).f1⟩ : S32)] : List (S32)) : List (S32))).bind fun y337 => (if y333.length + y337.length < 8796093022208 then (if bt324.2 = true then (if bt328.2 = true then (if bt328.1 = 0 then (some false) else ((laws_begunAt.f x5 ((x1.length : Int) % (x5.length : Int))).bind fun t343 => ((impl_PolyValid.f t343).bind fun t346 => (if t346 = true then ((impl_PolyValid.f bt324.1).bind fun t347 => (if t347 = true then ((laws_turned.f k x5).bind fun t348 => ((impl_PolyValid.f t348).bind fun t351 => (if t351 = true then ((impl_PolyValid.f (y333 ++ y337)).bind fun t352 => (some (!t352))) else (some false)))) else (some false))) else (some false))))) else (some false)) else (some false)) else (none))) else (none)) else (none))) else (none))))))
end
def laws_FnPoly.f (k : Nat) (l0 : List Int) (l1 : List Int) : Option (Bool) := if (l0.length : Int) > 1048576 then (laws_FnPoly.j0 k l0 l1 true) else (laws_FnPoly.j0 k l0 l1 (decide ((l1.length : Int) > 1048576)))
def laws_FnPoly.T11 : Bool × List (List Nat × List Nat) := (true, [([], []), ([], []), ([0, 1], [0, 1]), ([], []), ([], []), ([3, 4], [3, 4]), ([5], [5]), ([6], [6]), ([2, 7, 2], [2, 7]), ([8, 8, 0, 1, 2, 3, 4, 5, 6, 7, 8], [8])])
def laws_FnPoly.B11 : List Nat := [0, 0, 3, 0, 0, 24, 56, 120, 255, 511]
theorem laws_FnPoly.tab11 : rtab .any (opsOf Try.f4 11) = laws_FnPoly.T11 := by kernel_rfl
theorem laws_FnPoly.bits11 : waitsOk laws_FnPoly.T11.2 laws_FnPoly.B11 = true := by kernel_rfl
set_option maxHeartbeats 8000000 in
set_option maxRecDepth 100000 in
theorem laws_FnPoly.calls (k : Nat) (A0 : Option Addr) (c0 : Nat) (l0 : List Int) (A1 : Option Addr) (c1 : Nat) (l1 : List Int) (r : Bool) (w : World) (hr0 : Kd.C (Kd.int .u8) w A0 l0.length l0) (hc0 : l0.length ≤ c0) (hr1 : Kd.C (Kd.int .u8) w A1 l1.length l1) (hc1 : l1.length ≤ c1) (h : laws_FnPoly.f k l0 l1 = some r) (hT0 : r = true) :
    Calls Try.prog 4 #[.slice A0 l0.length c0, .slice A1 l1.length c1] w fun e w' => e = .returned (.bool r) ∧ Below w.heap.size w w' := by
  have hu32 := Try.underlying32
  have hT := Aside0.mk hT0
  clear hT0
  have HR0 := Aside0.mk hr0
  have HC0 := Aside0.mk hc0
  clear hr0 hc0
  have HR1 := Aside0.mk hr1
  have HC1 := Aside0.mk hc1
  clear hr1 hc1
  have HB := Aside0.mk (Below.refl w.heap.size w)
  have H : (if (l0.length : Int) > 1048576 then (laws_FnPoly.j0 k l0 l1 true) else (laws_FnPoly.j0 k l0 l1 (decide ((l1.length : Int) > 1048576)))) = some r := h
  clear h
  have HC3 := Aside0.mk H
  clear H
  go_enter Try.func4, Try.ntmps4
  go_upto_region 1 with (fail)
  go_cut [21] (fun v21 wc => ∃ (kq : Nat) (x21_2 : Bool), v21 = .bool x21_2 ∧ Aside0 (laws_FnPoly.j0 kq l0 l1 x21_2 = some r) ∧ Aside0 (kq ≤ k) ∧ Aside0 (Below w.heap.size w wc))
  case first =>
    have H := HC3.out
    clear HC3
    by_cases c4 : (l0.length : Int) > 1048576
    · rw [if_pos c4] at H
      have c4b0 : decide (1048576 < (l0.length : Int)) = true := decide_eq_true c4
      have c4b1 : decide (1048576 < l0.length) = true := decide_eq_true (by omega)
      clear c4
      (first | rw [c4b0] | (simp only [i64_w, i32_w]; rw [c4b0]) | skip)
      have H' := Aside0.mk H
      clear H
      go_wp2
      go_meet
      case rel => exact ⟨_, (true), qq23, H', ⟨qq46⟩, ⟨qq1⟩⟩
    · rw [if_neg c4] at H
      have c4b0 : decide (1048576 < (l0.length : Int)) = false := decide_eq_false c4
      have c4b1 : decide (1048576 < l0.length) = false := decide_eq_false (by omega)
      clear c4
      (first | rw [c4b0] | (simp only [i64_w, i32_w]; rw [c4b0]) | skip)
      have H' := Aside0.mk H
      clear H
      go_wp2
      go_meet
      case rel => exact ⟨_, (decide ((l1.length : Int) > 1048576)), qq23, H', ⟨qq46⟩, ⟨qq1⟩⟩
  case rest =>
    clear HC3
    try clear c1
    try clear p2
    try clear c4
    try clear c4b0
    try clear c4b1
    obtain ⟨kq, x21_2, rfl, HA, HJ2, HB⟩ := hcut
    cases kq with
    | zero => exact absurd HA.out (by simp [laws_FnPoly.j0])
    | succ kj2 =>
      have H := HA.out
      clear HA
      simp only [laws_FnPoly.j0] at H
      by_cases c5 : x21_2 = true
      · subst c5
        have H1 : (some true) = some r := by rw [if_pos rfl] at H; exact H
        clear H
        have H := H1
        clear H1
        obtain rfl := Option.some.inj H
        go_wp2
        go_ret
        exact ⟨qq11, qq1⟩
      · replace c5 := Bool.eq_false_iff.mpr c5
        subst c5
        have H1 : ((spec_DrawPolyValid.f kj2 l0).bind fun t319 => ((impl_PolyValid.f t319).bind fun t322 => ((spec_PolyValid.f t319).bind fun t323 => (if (t322 != t323) = true then (laws_FnPoly.j1 kj2 l1 t319 t322 t323 true) else (laws_FnPoly.j1 kj2 l1 t319 t322 t323 (!t322)))))) = some r := by rw [if_neg (show ¬ (false = true) by decide)] at H; exact H
        clear H
        have H := H1
        clear H1
        replace H := Option.bind_eq_some_iff.mp H
        obtain ⟨t319, A60, H⟩ := H
        replace H : ((impl_PolyValid.f t319).bind fun t322 => ((spec_PolyValid.f t319).bind fun t323 => (if (t322 != t323) = true then (laws_FnPoly.j1 kj2 l1 t319 t322 t323 true) else (laws_FnPoly.j1 kj2 l1 t319 t322 t323 (!t322))))) = some r := H
        have A6 := Aside0.mk A60
        clear A60
        replace H := Option.bind_eq_some_iff.mp H
        obtain ⟨t322, A70, H⟩ := H
        replace H : ((spec_PolyValid.f t319).bind fun t323 => (if (t322 != t323) = true then (laws_FnPoly.j1 kj2 l1 t319 t322 t323 true) else (laws_FnPoly.j1 kj2 l1 t319 t322 t323 (!t322)))) = some r := H
        have A7 := Aside0.mk A70
        clear A70
        replace H := Option.bind_eq_some_iff.mp H
        obtain ⟨t323, A80, H⟩ := H
        replace H : (if (t322 != t323) = true then (laws_FnPoly.j1 kj2 l1 t319 t322 t323 true) else (laws_FnPoly.j1 kj2 l1 t319 t322 t323 (!t322))) = some r := H
        have A8 := Aside0.mk A80
        clear A80
        have HC9 := Aside0.mk H
        clear H
        go_upto_region 6 with (first | ((with_reducible refine gate_callee (f := 17) rfl ?_); refine goesL_ (some 23) rfl rfl Try.func17 (by kernel_rfl) rfl #[.slice A0 l0.length c0] rfl qq2 ?_; (with_reducible refine (spec_DrawPolyValid.calls kj2 _ _ l0 t319 _ ?side1 ?side2 A6.out).mono ?_); (case side1 => exact qq62 HR0.out HB.out); (case side2 => exact HC0.out); rintro e w10 ⟨v320, rfl, ho0, hb⟩; refine ⟨_, rfl, ?_⟩; have n0_ := Aside0.mk (Kd.Q_lower ho0 (below_size qq1)); have n1_ := Aside0.mk (below_step qq1 hb); clear HB; have HO321 := n0_; have HB := n1_; clear n0_ n1_; (try clear hb); (try clear hb2); (try clear hk); (try clear hi); (try clear ho0); obtain ⟨Ao11, co11, eo11, _⟩ := Kd.Q_slice HO321.out; subst eo11) | ((with_reducible refine gate_callee (f := 18) rfl ?_); refine goesL_ (some 25) rfl rfl Try.func18 (by kernel_rfl) rfl #[.slice Ao11 t319.length co11] rfl qq2 ?_; (with_reducible refine (impl_PolyValid.calls _ _ t319 t322 _ ?side1 ?side2 A7.out).mono ?_); (case side1 => exact qq29 HO321.out); (case side2 => exact (Kd.Q_reads' HO321.out).2.1); rintro e w12 ⟨rfl, hb⟩; refine ⟨_, rfl, ?_⟩; have n0_ := Aside0.mk (Kd.Q_below (qq12 HO321.out) hb); have n1_ := Aside0.mk (below_step qq1 hb); clear HO321; clear HB; have HO321 := n0_; have HB := n1_; clear n0_ n1_; (try clear hb); (try clear hb2); (try clear hk); (try clear hi)) | ((with_reducible refine gate_callee (f := 19) rfl ?_); refine goesL_ (some 27) rfl rfl Try.func19 (by kernel_rfl) rfl #[.slice Ao11 t319.length co11] rfl qq2 ?_; (with_reducible refine (spec_PolyValid.calls _ _ t319 t323 _ ?side1 ?side2 A8.out).mono ?_); (case side1 => exact qq29 HO321.out); (case side2 => exact (Kd.Q_reads' HO321.out).2.1); rintro e w13 ⟨rfl, hb⟩; refine ⟨_, rfl, ?_⟩; have n0_ := Aside0.mk (Kd.Q_below (qq12 HO321.out) hb); have n1_ := Aside0.mk (below_step qq1 hb); clear HO321; clear HB; have HO321 := n0_; have HB := n1_; clear n0_ n1_; (try clear hb); (try clear hb2); (try clear hk); (try clear hi)))
        (try simp only [Act.put, List.setIfInBounds_toArray, List.set_cons_zero, List.set_cons_succ])
        go_cut [34] (fun v34 wc => ∃ (kq : Nat) (x34_8 : Bool), v34 = .bool x34_8 ∧ Aside0 (laws_FnPoly.j1 kq l1 t319 t322 t323 x34_8 = some r) ∧ Aside0 (kq ≤ kj2) ∧ Aside0 (Kd.Q k32 32 wc w.heap.size (fun _ => True) (.slice Ao11 t319.length co11) t319) ∧ Aside0 (Below w.heap.size w wc))
        case first =>
          have H := HC9.out
          clear HC9
          by_cases c14 : (t322 != t323) = true
          · rw [if_pos c14] at H
            have c14b0 : (t322 != t323) = true := c14
            (try (have c14b1 : decide (t322 = t323) = false := by simpa using c14))
            (try (have c14b2 : (t322 == t323) = false := by simpa using c14))
            (try (have c14b3 : ¬ (t322 = t323) := by simpa using c14))
            clear c14
            (first | rw [c14b0] | (simp only [i64_w, i32_w]; rw [c14b0]) | skip)
            have H' := Aside0.mk H
            clear H
            go_wp2
            go_meet
            case rel => exact ⟨_, (true), qq23, H', ⟨by have := HJ2.out; first | omega | exact Nat.le_refl _⟩, ⟨qq12 HO321.out⟩, ⟨qq1⟩⟩
          · rw [if_neg c14] at H
            have c14b0 : (t322 != t323) = false := by simpa using c14
            (try (have c14b1 : decide (t322 = t323) = true := by simpa using c14))
            (try (have c14b2 : (t322 == t323) = true := by simpa using c14))
            clear c14
            (first | rw [c14b0] | (simp only [i64_w, i32_w]; rw [c14b0]) | skip)
            have H' := Aside0.mk H
            clear H
            go_wp2
            go_meet
            case rel => exact ⟨_, (!t322), qq23, H', ⟨by have := HJ2.out; first | omega | exact Nat.le_refl _⟩, ⟨qq12 HO321.out⟩, ⟨qq1⟩⟩
        case rest =>
          clear HC9
          try clear c1
          try clear p2
          try clear c4
          try clear c4b0
          try clear c4b1
          try clear c5
          try clear c14
          try clear c14b0
          try clear c14b1
          try clear c14b2
          try clear p2
          obtain ⟨kq, x34_8, rfl, HA, HJ8, HO_5, HB⟩ := hcut
          cases kq with
          | zero => exact absurd HA.out (by simp [laws_FnPoly.j1])
          | succ kj8 =>
            have H := HA.out
            clear HA
            simp only [laws_FnPoly.j1] at H
            by_cases c15 : x34_8 = true
            · subst c15
              have H1 : (some (t322 == t323)) = some r := by rw [if_pos rfl] at H; exact H
              clear H
              have H := H1
              clear H1
              obtain rfl := Option.some.inj H
              go_wp2
              go_ret
              exact ⟨qq11, qq1⟩
            · replace c15 := Bool.eq_false_iff.mpr c15
              subst c15
              have H1 : (if (t319.length : Int) = 0 then (none) else ((impl_PolyBack.f kj8 t319).bind fun bt324 => ((impl_PolyArea.f t319).bind fun bt328 => ((some (([] : List (S32)) : List (S32))).bind fun y330 => (if y330.length + t319.length < 8796093022208 then ((some (y330 ++ t319 : List (S32))).bind fun y333 => (if 0 ≤ ((l1.length : Int) % (t319.length : Int)) then (if ((l1.length : Int) % (t319.length : Int)) < (t319.length : Int) then ((some (([(⟨(rd_T32 t319 ((l1.length : Int) % (t319.length : Int))).f0, (rd_T32 t319 ((l1.length : Int) % (t319.length : Int))).f1⟩ : S32)] : List (S32)) : List (S32))).bind fun y337 => (if y333.length + y337.length < 8796093022208 then (if bt324.2 = true then (if bt328.2 = true then (if bt328.1 = 0 then (some false) else ((laws_begunAt.f t319 ((l1.length : Int) % (t319.length : Int))).bind fun t343 => ((impl_PolyValid.f t343).bind fun t346 => (if t346 = true then ((impl_PolyValid.f bt324.1).bind fun t347 => (if t347 = true then ((laws_turned.f kj8 t319).bind fun t348 => ((impl_PolyValid.f t348).bind fun t351 => (if t351 = true then ((impl_PolyValid.f (y333 ++ y337)).bind fun t352 => (some (!t352))) else (some false)))) else (some false))) else (some false))))) else (some false)) else (some false)) else (none))) else (none)) else (none))) else (none)))))) = some r := by rw [if_neg (show ¬ (false = true) by decide)] at H; exact H
              clear H
              have H := H1
              clear H1
              by_cases c16 : (t319.length : Int) = 0
              · rw [if_pos c16] at H
                exact absurd H (by simp)
              · rw [if_neg c16] at H
                have c16b0 : ((t319.length : Int) == 0) = false := beq_eq_false_iff_ne.mpr c16
                have c16b1 : ((t319.length : Int) != 0) = true := bne_iff_ne.mpr c16
                have c16b2 : ¬ (t319 = []) := fun h_ => c16 (by rw [h_]; rfl)
                replace H := Option.bind_eq_some_iff.mp H
                obtain ⟨⟨t324, t325⟩, A170, H⟩ := H
                replace H : ((impl_PolyArea.f t319).bind fun bt328 => ((some (([] : List (S32)) : List (S32))).bind fun y330 => (if y330.length + t319.length < 8796093022208 then ((some (y330 ++ t319 : List (S32))).bind fun y333 => (if 0 ≤ ((l1.length : Int) % (t319.length : Int)) then (if ((l1.length : Int) % (t319.length : Int)) < (t319.length : Int) then ((some (([(⟨(rd_T32 t319 ((l1.length : Int) % (t319.length : Int))).f0, (rd_T32 t319 ((l1.length : Int) % (t319.length : Int))).f1⟩ : S32)] : List (S32)) : List (S32))).bind fun y337 => (if y333.length + y337.length < 8796093022208 then (if t325 = true then (if bt328.2 = true then (if bt328.1 = 0 then (some false) else ((laws_begunAt.f t319 ((l1.length : Int) % (t319.length : Int))).bind fun t343 => ((impl_PolyValid.f t343).bind fun t346 => (if t346 = true then ((impl_PolyValid.f t324).bind fun t347 => (if t347 = true then ((laws_turned.f kj8 t319).bind fun t348 => ((impl_PolyValid.f t348).bind fun t351 => (if t351 = true then ((impl_PolyValid.f (y333 ++ y337)).bind fun t352 => (some (!t352))) else (some false)))) else (some false))) else (some false))))) else (some false)) else (some false)) else (none))) else (none)) else (none))) else (none)))) = some r := H
                have A17 := Aside0.mk A170
                clear A170
                replace H := Option.bind_eq_some_iff.mp H
                obtain ⟨⟨t328, t329⟩, A180, H⟩ := H
                replace H : ((some (([] : List (S32)) : List (S32))).bind fun y330 => (if y330.length + t319.length < 8796093022208 then ((some (y330 ++ t319 : List (S32))).bind fun y333 => (if 0 ≤ ((l1.length : Int) % (t319.length : Int)) then (if ((l1.length : Int) % (t319.length : Int)) < (t319.length : Int) then ((some (([(⟨(rd_T32 t319 ((l1.length : Int) % (t319.length : Int))).f0, (rd_T32 t319 ((l1.length : Int) % (t319.length : Int))).f1⟩ : S32)] : List (S32)) : List (S32))).bind fun y337 => (if y333.length + y337.length < 8796093022208 then (if t325 = true then (if t329 = true then (if t328 = 0 then (some false) else ((laws_begunAt.f t319 ((l1.length : Int) % (t319.length : Int))).bind fun t343 => ((impl_PolyValid.f t343).bind fun t346 => (if t346 = true then ((impl_PolyValid.f t324).bind fun t347 => (if t347 = true then ((laws_turned.f kj8 t319).bind fun t348 => ((impl_PolyValid.f t348).bind fun t351 => (if t351 = true then ((impl_PolyValid.f (y333 ++ y337)).bind fun t352 => (some (!t352))) else (some false)))) else (some false))) else (some false))))) else (some false)) else (some false)) else (none))) else (none)) else (none))) else (none))) = some r := H
                have A18 := Aside0.mk A180
                clear A180
                obtain ⟨y330, hy330⟩ : ∃ y_ : List (S32), y_ = (([] : List (S32))) := ⟨_, rfl⟩
                replace H : (if y330.length + t319.length < 8796093022208 then ((some (y330 ++ t319 : List (S32))).bind fun y333 => (if 0 ≤ ((l1.length : Int) % (t319.length : Int)) then (if ((l1.length : Int) % (t319.length : Int)) < (t319.length : Int) then ((some (([(⟨(rd_T32 t319 ((l1.length : Int) % (t319.length : Int))).f0, (rd_T32 t319 ((l1.length : Int) % (t319.length : Int))).f1⟩ : S32)] : List (S32)) : List (S32))).bind fun y337 => (if y333.length + y337.length < 8796093022208 then (if t325 = true then (if t329 = true then (if t328 = 0 then (some false) else ((laws_begunAt.f t319 ((l1.length : Int) % (t319.length : Int))).bind fun t343 => ((impl_PolyValid.f t343).bind fun t346 => (if t346 = true then ((impl_PolyValid.f t324).bind fun t347 => (if t347 = true then ((laws_turned.f kj8 t319).bind fun t348 => ((impl_PolyValid.f t348).bind fun t351 => (if t351 = true then ((impl_PolyValid.f (y333 ++ y337)).bind fun t352 => (some (!t352))) else (some false)))) else (some false))) else (some false))))) else (some false)) else (some false)) else (none))) else (none)) else (none))) else (none)) = some r := by first | (rw [hy330]; with_reducible exact H) | (have H2_ := (Option.bind_some _ _).symm.trans H; rw [hy330]; with_reducible exact H2_) | (have H2_ := (Option.bind_some _ _).symm.trans H; with_reducible exact H2_) | with_reducible exact H | (rw [hy330]; exact H) | exact H
                have Ny330 := Aside0.mk hy330
                clear hy330
                by_cases c19 : y330.length + t319.length < 8796093022208
                · rw [if_pos c19] at H
                  have LMc19 := Aside0.mk c19
                  clear c19
                  obtain ⟨y333, hy333⟩ : ∃ y_ : List (S32), y_ = (y330 ++ t319) := ⟨_, rfl⟩
                  replace H : (if 0 ≤ ((l1.length : Int) % (t319.length : Int)) then (if ((l1.length : Int) % (t319.length : Int)) < (t319.length : Int) then ((some (([(⟨(rd_T32 t319 ((l1.length : Int) % (t319.length : Int))).f0, (rd_T32 t319 ((l1.length : Int) % (t319.length : Int))).f1⟩ : S32)] : List (S32)) : List (S32))).bind fun y337 => (if y333.length + y337.length < 8796093022208 then (if t325 = true then (if t329 = true then (if t328 = 0 then (some false) else ((laws_begunAt.f t319 ((l1.length : Int) % (t319.length : Int))).bind fun t343 => ((impl_PolyValid.f t343).bind fun t346 => (if t346 = true then ((impl_PolyValid.f t324).bind fun t347 => (if t347 = true then ((laws_turned.f kj8 t319).bind fun t348 => ((impl_PolyValid.f t348).bind fun t351 => (if t351 = true then ((impl_PolyValid.f (y333 ++ y337)).bind fun t352 => (some (!t352))) else (some false)))) else (some false))) else (some false))))) else (some false)) else (some false)) else (none))) else (none)) else (none)) = some r := by first | (rw [hy333]; with_reducible exact H) | (have H2_ := (Option.bind_some _ _).symm.trans H; rw [hy333]; with_reducible exact H2_) | (have H2_ := (Option.bind_some _ _).symm.trans H; with_reducible exact H2_) | with_reducible exact H | (rw [hy333]; exact H) | exact H
                  have Ny333 := Aside0.mk hy333
                  clear hy333
                  obtain ⟨ji20, hji20⟩ : ∃ j_ : Int, ((l1.length : Int) % (t319.length : Int)) = j_ := ⟨_, rfl⟩
                  replace H : (if 0 ≤ (ji20) then (if (ji20) < (t319.length : Int) then ((some (([(⟨(rd_T32 t319 (ji20)).f0, (rd_T32 t319 (ji20)).f1⟩ : S32)] : List (S32)) : List (S32))).bind fun y337 => (if y333.length + y337.length < 8796093022208 then (if t325 = true then (if t329 = true then (if t328 = 0 then (some false) else ((laws_begunAt.f t319 (ji20)).bind fun t343 => ((impl_PolyValid.f t343).bind fun t346 => (if t346 = true then ((impl_PolyValid.f t324).bind fun t347 => (if t347 = true then ((laws_turned.f kj8 t319).bind fun t348 => ((impl_PolyValid.f t348).bind fun t351 => (if t351 = true then ((impl_PolyValid.f (y333 ++ y337)).bind fun t352 => (some (!t352))) else (some false)))) else (some false))) else (some false))))) else (some false)) else (some false)) else (none))) else (none)) else (none)) = some r := by first | (rw [hji20] at H; exact H) | (simp only [hji20] at H ⊢; exact H)
                  (try rw [hji20] at A17)
                  (try rw [hji20] at A18)
                  by_cases c21 : 0 ≤ (ji20)
                  · rw [if_pos c21] at H
                    have c21b0 : decide (0 ≤ (ji20)) = true := decide_eq_true c21
                    clear c21
                    by_cases c22 : (ji20) < (t319.length : Int)
                    · rw [if_pos c22] at H
                      have c22b0 : decide ((ji20) < (t319.length : Int)) = true := decide_eq_true c22
                      clear c22
                      obtain ⟨y337, hy337⟩ : ∃ y_ : List (S32), y_ = (([(⟨(rd_T32 t319 (ji20)).f0, (rd_T32 t319 (ji20)).f1⟩ : S32)] : List (S32))) := ⟨_, rfl⟩
                      replace H : (if y333.length + y337.length < 8796093022208 then (if t325 = true then (if t329 = true then (if t328 = 0 then (some false) else ((laws_begunAt.f t319 (ji20)).bind fun t343 => ((impl_PolyValid.f t343).bind fun t346 => (if t346 = true then ((impl_PolyValid.f t324).bind fun t347 => (if t347 = true then ((laws_turned.f kj8 t319).bind fun t348 => ((impl_PolyValid.f t348).bind fun t351 => (if t351 = true then ((impl_PolyValid.f (y333 ++ y337)).bind fun t352 => (some (!t352))) else (some false)))) else (some false))) else (some false))))) else (some false)) else (some false)) else (none)) = some r := by first | (rw [hy337]; with_reducible exact H) | (have H2_ := (Option.bind_some _ _).symm.trans H; rw [hy337]; with_reducible exact H2_) | (have H2_ := (Option.bind_some _ _).symm.trans H; with_reducible exact H2_) | with_reducible exact H | (rw [hy337]; exact H) | exact H
                      have Ny337 := Aside0.mk hy337
                      clear hy337
                      by_cases c23 : y333.length + y337.length < 8796093022208
                      · rw [if_pos c23] at H
                        have LMc23 := Aside0.mk c23
                        clear c23
                        obtain ⟨y340, hy340⟩ : ∃ y_ : List (S32), y_ = (y333 ++ y337) := ⟨_, rfl⟩
                        replace H : (if t325 = true then (if t329 = true then (if t328 = 0 then (some false) else ((laws_begunAt.f t319 (ji20)).bind fun t343 => ((impl_PolyValid.f t343).bind fun t346 => (if t346 = true then ((impl_PolyValid.f t324).bind fun t347 => (if t347 = true then ((laws_turned.f kj8 t319).bind fun t348 => ((impl_PolyValid.f t348).bind fun t351 => (if t351 = true then ((impl_PolyValid.f y340).bind fun t352 => (some (!t352))) else (some false)))) else (some false))) else (some false))))) else (some false)) else (some false)) = some r := by first | (rw [hy340]; with_reducible exact H) | (have H2_ := (Option.bind_some _ _).symm.trans H; rw [hy340]; with_reducible exact H2_) | (have H2_ := (Option.bind_some _ _).symm.trans H; with_reducible exact H2_) | with_reducible exact H | (rw [hy340]; exact H) | exact H
                        have Ny340 := Aside0.mk hy340
                        clear hy340
                        by_cases c24 : t325 = true
                        · subst c24
                          have H1 : (if t329 = true then (if t328 = 0 then (some false) else ((laws_begunAt.f t319 (ji20)).bind fun t343 => ((impl_PolyValid.f t343).bind fun t346 => (if t346 = true then ((impl_PolyValid.f t324).bind fun t347 => (if t347 = true then ((laws_turned.f kj8 t319).bind fun t348 => ((impl_PolyValid.f t348).bind fun t351 => (if t351 = true then ((impl_PolyValid.f y340).bind fun t352 => (some (!t352))) else (some false)))) else (some false))) else (some false))))) else (some false)) = some r := by rw [if_pos rfl] at H; exact H
                          clear H
                          have H := H1
                          clear H1
                          by_cases c25 : t329 = true
                          · subst c25
                            have H1 : (if t328 = 0 then (some false) else ((laws_begunAt.f t319 (ji20)).bind fun t343 => ((impl_PolyValid.f t343).bind fun t346 => (if t346 = true then ((impl_PolyValid.f t324).bind fun t347 => (if t347 = true then ((laws_turned.f kj8 t319).bind fun t348 => ((impl_PolyValid.f t348).bind fun t351 => (if t351 = true then ((impl_PolyValid.f y340).bind fun t352 => (some (!t352))) else (some false)))) else (some false))) else (some false))))) = some r := by rw [if_pos rfl] at H; exact H
                            clear H
                            have H := H1
                            clear H1
                            by_cases c26 : t328 = 0
                            · rw [if_pos c26] at H
                              have c26b0 : (t328 == 0) = true := beq_iff_eq.mpr c26
                              have c26b1 : (t328 != 0) = false := bne_eq_false_iff_eq.mpr c26
                              clear c26
                              exact absurd ((Option.some.inj H).trans hT.out) (by decide)
                            · rw [if_neg c26] at H
                              have c26b0 : (t328 == 0) = false := beq_eq_false_iff_ne.mpr c26
                              have c26b1 : (t328 != 0) = true := bne_iff_ne.mpr c26
                              replace H := Option.bind_eq_some_iff.mp H
                              obtain ⟨t343, A270, H⟩ := H
                              replace H : ((impl_PolyValid.f t343).bind fun t346 => (if t346 = true then ((impl_PolyValid.f t324).bind fun t347 => (if t347 = true then ((laws_turned.f kj8 t319).bind fun t348 => ((impl_PolyValid.f t348).bind fun t351 => (if t351 = true then ((impl_PolyValid.f y340).bind fun t352 => (some (!t352))) else (some false)))) else (some false))) else (some false))) = some r := H
                              have A27 := Aside0.mk A270
                              clear A270
                              replace H := Option.bind_eq_some_iff.mp H
                              obtain ⟨t346, A280, H⟩ := H
                              replace H : (if t346 = true then ((impl_PolyValid.f t324).bind fun t347 => (if t347 = true then ((laws_turned.f kj8 t319).bind fun t348 => ((impl_PolyValid.f t348).bind fun t351 => (if t351 = true then ((impl_PolyValid.f y340).bind fun t352 => (some (!t352))) else (some false)))) else (some false))) else (some false)) = some r := H
                              have A28 := Aside0.mk A280
                              clear A280
                              by_cases c29 : t346 = true
                              · subst c29
                                have H1 : ((impl_PolyValid.f t324).bind fun t347 => (if t347 = true then ((laws_turned.f kj8 t319).bind fun t348 => ((impl_PolyValid.f t348).bind fun t351 => (if t351 = true then ((impl_PolyValid.f y340).bind fun t352 => (some (!t352))) else (some false)))) else (some false))) = some r := by rw [if_pos rfl] at H; exact H
                                clear H
                                have H := H1
                                clear H1
                                replace H := Option.bind_eq_some_iff.mp H
                                obtain ⟨t347, A300, H⟩ := H
                                replace H : (if t347 = true then ((laws_turned.f kj8 t319).bind fun t348 => ((impl_PolyValid.f t348).bind fun t351 => (if t351 = true then ((impl_PolyValid.f y340).bind fun t352 => (some (!t352))) else (some false)))) else (some false)) = some r := H
                                have A30 := Aside0.mk A300
                                clear A300
                                by_cases c31 : t347 = true
                                · subst c31
                                  have H1 : ((laws_turned.f kj8 t319).bind fun t348 => ((impl_PolyValid.f t348).bind fun t351 => (if t351 = true then ((impl_PolyValid.f y340).bind fun t352 => (some (!t352))) else (some false)))) = some r := by rw [if_pos rfl] at H; exact H
                                  clear H
                                  have H := H1
                                  clear H1
                                  replace H := Option.bind_eq_some_iff.mp H
                                  obtain ⟨t348, A320, H⟩ := H
                                  replace H : ((impl_PolyValid.f t348).bind fun t351 => (if t351 = true then ((impl_PolyValid.f y340).bind fun t352 => (some (!t352))) else (some false))) = some r := H
                                  have A32 := Aside0.mk A320
                                  clear A320
                                  replace H := Option.bind_eq_some_iff.mp H
                                  obtain ⟨t351, A330, H⟩ := H
                                  replace H : (if t351 = true then ((impl_PolyValid.f y340).bind fun t352 => (some (!t352))) else (some false)) = some r := H
                                  have A33 := Aside0.mk A330
                                  clear A330
                                  by_cases c34 : t351 = true
                                  · subst c34
                                    have H1 : ((impl_PolyValid.f y340).bind fun t352 => (some (!t352))) = some r := by rw [if_pos rfl] at H; exact H
                                    clear H
                                    have H := H1
                                    clear H1
                                    replace H := Option.bind_eq_some_iff.mp H
                                    obtain ⟨t352, A350, H⟩ := H
                                    replace H : (some (!t352)) = some r := H
                                    have A35 := Aside0.mk A350
                                    clear A350
                                    obtain rfl := Option.some.inj H
                                    try go_wp2_with (first | ((with_reducible refine gate_callee (f := 14) rfl ?_); refine goesL_ (some 45) rfl rfl Try.func14 (by kernel_rfl) rfl #[.slice Ao11 t319.length co11] rfl qq2 ?_; (with_reducible refine (impl_PolyBack.calls kj8 _ _ t319 t324 true _ ?side1 ?side2 A17.out).mono ?_); (case side1 => exact qq29 HO_5.out); (case side2 => exact (Kd.Q_reads' HO_5.out).2.1); rintro e w36 ⟨v326, rfl, ho0, hb⟩; refine ⟨_, rfl, ?_⟩; have n0_ := Aside0.mk (Kd.Q_elder' (qq12 HO_5.out) (Kd.R_base ho0) hb); have n1_ := Aside0.mk (Kd.R_lower (Kd.R_new' ho0 (Kd.Q_lt (qq12 HO_5.out))) (below_size qq1)); have n2_ := Aside0.mk (below_step qq1 hb); clear HO_5; clear HB; have HO_5 := n0_; have HO327 := n1_; have HB := n2_; clear n0_ n1_ n2_; (try clear hb); (try clear hb2); (try clear hk); (try clear hi); (try clear ho0)) | ((with_reducible refine gate_callee (f := 12) rfl ?_); refine goesL_ (some 50) rfl rfl Try.func12 (by kernel_rfl) rfl #[.slice Ao11 t319.length co11] rfl qq2 ?_; (with_reducible refine (impl_PolyArea.calls _ _ t319 t328 true _ ?side1 ?side2 A18.out).mono ?_); (case side1 => exact qq29 HO_5.out); (case side2 => exact (Kd.Q_reads' HO_5.out).2.1); rintro e w37 ⟨rfl, hb⟩; refine ⟨_, rfl, ?_⟩; have n0_ := Aside0.mk (Kd.Q_below (qq12 HO_5.out) hb); have n1_ := Aside0.mk (Kd.R_below (qq4 HO327.out) hb); have n2_ := Aside0.mk (below_step qq1 hb); clear HO_5; clear HO327; clear HB; have HO_5 := n0_; have HO327 := n1_; have HB := n2_; clear n0_ n1_ n2_; (try clear hb); (try clear hb2); (try clear hk); (try clear hi)))
                                    have n0_ := Aside0.mk (Kd.Q_drew HO_5.out)
                                    have n1_ := Aside0.mk (Kd.R_drew HO327.out)
                                    have n2_ := Aside0.mk (below_drew1 HB.out)
                                    clear HO_5
                                    clear HO327
                                    clear HB
                                    have HO_5 := n0_
                                    have HO327 := n1_
                                    have HB := n2_
                                    clear n0_ n1_ n2_
                                    have p336 : 0 ≤ ((ji20) : Int) := of_decide_eq_true qq18
                                    have q336 : (ji20) < (t319.length : Int) := of_decide_eq_true qq18
                                    obtain ⟨ad336, e336, hx336_0, hx336_1⟩ := at_T32 (Kd.Q_reads' HO_5.out).2.2 (ji20) p336 q336
                                    cases e336
                                    replace p336 := eq_true p336
                                    replace q336 := eq_true q336
                                    refine start_ (n := 10) (S := fun w' => w'.cell? (ad336.add (((ji20)).toNat * 2)) = some (.int .i64 ((rd_T32 t319 (ji20)).f0)) ∧ w'.cell? ⟨(ad336.add (((ji20)).toNat * 2)).block, (ad336.add (((ji20)).toNat * 2)).off + 1, none⟩ = some (.int .i64 ((rd_T32 t319 (ji20)).f1))) (ds := []) #[false, false, false, false, false, false, false, false, false, false] (by kernel_rfl) rfl rfl ⟨hx336_0, hx336_1⟩ (fun hHeld => ?_); refine with_tabW laws_FnPoly.tab11 laws_FnPoly.bits11 (fun HT_ HW_ => ?_)
                                    generalize w37.drew = w38 at HO_5 HO327 HB hx336_0 hx336_1 hHeld ⊢
                                    refine pure_ (i := 1) (N := some 54) #[false, true, false, false, false, false, false, false, false, false] rfl rfl (any_of HT_.out (by kernel_rfl)) (fun _ _ _ h => h) (Or.inl ⟨by rfl, pA_⟩) pB_ ?_
                                    refine pure_ (i := 3) (N := some 56) #[false, true, false, true, false, false, false, false, false, false] rfl rfl (any_of HT_.out (by kernel_rfl)) (fun _ _ _ h => h) (Or.inl ⟨by rfl, pA_⟩) pB_ ?_
                                    refine pure_ (i := 4) (N := some 57) #[false, true, false, true, true, false, false, false, false, false] rfl rfl (any_of HT_.out (by kernel_rfl)) (fun _ _ _ h => h) (Or.inl ⟨by rfl, pA_⟩) pB_ ?_
                                    refine pure_ (i := 5) (N := some 58) #[false, true, false, true, true, true, false, false, false, false] rfl rfl (any_of HT_.out (by kernel_rfl)) (fun _ _ _ h => h) (Or.inl ⟨by rfl, pA_⟩) pB_ ?_
                                    refine take_ (i := 6) (N := some 59) (v := ?_) (a' := ?_) #[false, true, false, true, true, true, true, false, false, false] rfl rfl (take_ofW HT_.out HW_.out (by kernel_rfl)) (fun _ _ _ h => h) (Or.inl ⟨by rfl, ?_⟩) hHeld ?_ ?_
                                    rotate_left
                                    · rintro w' ⟨s0, s1⟩
                                      go_simp
                                      with_reducible rfl
                                    rotate_left
                                    · simp only [Act.put, List.setIfInBounds_toArray, List.set_cons_zero, List.set_cons_succ, i64_w, i32_w]
                                      rfl
                                    refine join_ (σ := Value × Value × Value) 2 #[true, true, true, true, true, true, true, true, false, false] (fun s_ => [(53, s_.1), (55, s_.2.1), (60, s_.2.2)]) (fun s_ w' => (w'.cell? (ad336.add (((ji20)).toNat * 2)) = some (.int .i64 ((rd_T32 t319 (ji20)).f0)) ∧ w'.cell? ⟨(ad336.add (((ji20)).toNat * 2)).block, (ad336.add (((ji20)).toNat * 2)).off + 1, none⟩ = some (.int .i64 ((rd_T32 t319 (ji20)).f1))) ∧ (Kd.R k32 32 w' w.heap.size (fun k_ => some k_ ≠ (s_.2.1 : Value).ownBlock ∧ some k_ ≠ (s_.2.2 : Value).ownBlock ∧ some k_ ≠ (.slice (some ad336) t319.length co11 : Value).ownBlock) v326 t324) ∧ (Kd.R k32 32 w' w.heap.size (fun k_ => some k_ ≠ (v326 : Value).ownBlock ∧ some k_ ≠ (s_.2.2 : Value).ownBlock ∧ some k_ ≠ (.slice (some ad336) t319.length co11 : Value).ownBlock) s_.2.1 y333) ∧ (Kd.R k32 32 w' w.heap.size (fun k_ => some k_ ≠ (v326 : Value).ownBlock ∧ some k_ ≠ (s_.2.1 : Value).ownBlock ∧ some k_ ≠ (.slice (some ad336) t319.length co11 : Value).ownBlock) s_.2.2 y337) ∧ (Kd.Q k32 32 w' w.heap.size (fun k_ => some k_ ≠ (v326 : Value).ownBlock ∧ some k_ ≠ (s_.2.1 : Value).ownBlock ∧ some k_ ≠ (s_.2.2 : Value).ownBlock) (.slice (some ad336) t319.length co11) t319) ∧ (Below w.heap.size w w')) ?_ ?_
                                    rotate_left
                                    · intro hCont
                                      refine two_ (i := 0) (j := 7) (Ni := some 53) (Nj := some 60) #[true, true, false, true, true, true, true, false, false, false] #[false, true, false, true, true, true, true, true, false, false] rfl rfl rfl rfl (two_of HT_.out (by kernel_rfl)) (by decide) (by decide) (fun K hK => ?_) (fun K hK => ?_)
                                      · skip
                                        refine Kd.R_lit_step k32 _ 32 ?hg (N := 53) ?hd (xs := ([] : List (S32))) (inner := []) (ok := fun _ => True) (okp := fun _ => True) ?hr ?hp (fun _ hk => hk) trivial (Below.refl _ _) (Nat.le_refl _) (by simp) ?_; (case hd => rfl); (case hg => rfl); (case hr => exact qq21); (case hp => exact (Reps.none _ _))
                                        intro v331 w39 ho40 hb hg_ hnew_
                                        have HS0_ := (hb.cell (World.block_lt_of_cell? _ _ (hHeld.1))).trans (hHeld.1)
                                        have HS1_ := (hb.cell (World.block_lt_of_cell? _ _ (hHeld.2))).trans (hHeld.2)
                                        clear hg_ hnew_
                                        (first | rw [← Ny330.out] at ho40 | (simp only [Int.reduceToNat] at ho40; rw [← Ny330.out] at ho40))
                                        have n0_ := Aside0.mk (Kd.Q_elder' (qq12 HO_5.out) (Kd.R_base ho40) hb)
                                        have n1_ := Aside0.mk (Kd.R_elder' (qq4 HO327.out) (Kd.R_base ho40) hb)
                                        have n2_ := Aside0.mk (Kd.R_lower (Kd.R_new' (Kd.R_new' ho40 (Kd.Q_lt (qq12 HO_5.out))) (Kd.R_lt (qq4 HO327.out))) (below_size qq1))
                                        have n3_ := Aside0.mk (below_step qq1 hb)
                                        clear HO_5
                                        clear HO327
                                        clear HB
                                        have HO_5 := n0_
                                        have HO327 := n1_
                                        have HO332 := n2_
                                        have HB := n3_
                                        clear n0_ n1_ n2_ n3_
                                        clear hb ho40
                                        refine hK.out _ _ ⟨HS0_, HS1_⟩ (fun hHeld => ?_)
                                        clear hK K
                                        refine norm_ (a' := ?_) ?_ ?_
                                        rotate_left
                                        · show Act.put _ (some 53) _ = _
                                          simp only [Act.put, List.setIfInBounds_toArray, List.set_cons_zero, List.set_cons_succ, i64_w, i32_w]
                                          rfl
                                        refine two_ (i := 2) (j := 7) (Ni := some 55) (Nj := some 60) #[true, true, true, true, true, true, true, false, false, false] #[true, true, false, true, true, true, true, true, false, false] rfl rfl rfl rfl (two_of HT_.out (by kernel_rfl)) (by decide) (by decide) (fun K hK => ?_) (fun K hK => ?_)
                                        · skip
                                          refine Kd.R_append_rows_step k32 (w0 := w) w.heap.size (by rfl) (.tmp 53) (.tmp 54) 23 32 (.agg #[(.int .i64 0), (.int .i64 0)]) 16 rfl Try.underlying23 info32 rfl (by decide) (by omega) v331 y330 t319 _ _ _ (fun k_ => some k_ ≠ (.slice (some ad336) t319.length co11 : Value).ownBlock ∧ some k_ ≠ (v326 : Value).ownBlock) (fun _ => False) rfl rfl ?aO ?aR (fun _ _ h => h) (fun _ h => h.elim) ?aF ?aB ?aS ?aL ?_
                                          (case aR => exact qq29 HO_5.out)
                                          (case aB => exact qq1)
                                          (case aF => exact (fun k_ hk => ⟨Kd.fresh' (Kd.Q_lt (qq12 HO_5.out)) k_ hk, Kd.fresh' (Kd.R_lt (qq4 HO327.out)) k_ hk⟩))
                                          (case aO => exact (by (with_reducible repeat (first | apply Kd.R_alloc | apply Kd.R_drewN | apply Kd.R_drew)); exact Kd.R_mono HO332.out (fun _ hk => ⟨hk.1.2, hk.2⟩)))
                                          (case aS => exact (below_size qq1))
                                          (case aL => have := LMc19.out; omega)
                                          intro v334 w41 ho hb hg hat
                                          have HS0_ := cell_grown hg (hHeld.1) qq32
                                          have HS1_ := cell_grown hg (hHeld.2) qq32
                                          rw [← Ny333.out] at ho
                                          have n0_ := Aside0.mk (Kd.Q_after (ok := (fun k_ => some k_ ≠ (v326 : Value).ownBlock)) (by (with_reducible repeat (first | apply Kd.Q_alloc | apply Kd.Q_drewN | apply Kd.Q_drew)); exact Kd.Q_mono HO_5.out (fun _ hk => ⟨hk.1.2, hk.2⟩)) hg hat)
                                          have n1_ := Aside0.mk (Kd.R_after (ok := (fun k_ => some k_ ≠ (.slice (some ad336) t319.length co11 : Value).ownBlock)) (by (with_reducible repeat (first | apply Kd.R_alloc | apply Kd.R_drewN | apply Kd.R_drew)); exact Kd.R_mono HO327.out (fun _ hk => ⟨hk.1.2, hk.2⟩)) hg hat)
                                          have n2_ := Aside0.mk (hb)
                                          have n3_ := Aside0.mk (ho)
                                          clear HO_5
                                          clear HO327
                                          clear HB
                                          clear HO332
                                          have HO_5 := n0_
                                          have HO327 := n1_
                                          have HB := n2_
                                          have HO335 := n3_
                                          clear n0_ n1_ n2_ n3_
                                          clear ho hb hg hat
                                          refine hK.out _ _ ⟨HS0_, HS1_⟩ (fun hHeld => ?_)
                                          clear hK K
                                          refine norm_ (a' := ?_) ?_ ?_
                                          rotate_left
                                          · show Act.put _ (some 55) _ = _
                                            simp only [Act.put, List.setIfInBounds_toArray, List.set_cons_zero, List.set_cons_succ, i64_w, i32_w]
                                            rfl
                                          refine one_ (i := 7) (N := some 60) #[true, true, true, true, true, true, true, true, false, false] rfl rfl (one_of HT_.out (by kernel_rfl)) (by decide) (fun K hK => ?_)
                                          refine Kd.R_lit_step k32 _ 32 ?hg (N := 60) ?hd (xs := ([(⟨(rd_T32 t319 (ji20)).f0, (rd_T32 t319 (ji20)).f1⟩ : S32)] : List (S32))) (inner := [.int .i64 ((rd_T32 t319 (ji20)).f0), .int .i64 ((rd_T32 t319 (ji20)).f1)]) (ok := fun _ => True) (okp := fun _ => True) ?hr ?hp (fun _ hk => hk) trivial (Below.refl _ _) (Nat.le_refl _) (by simp) ?_; (case hd => rfl); (case hg => rfl); (case hr => exact qq21); (case hp => exact qq38)
                                          intro v338 w42 ho43 hb hg_ hnew_
                                          have HS0_ := (hb.cell (World.block_lt_of_cell? _ _ (hHeld.1))).trans (hHeld.1)
                                          have HS1_ := (hb.cell (World.block_lt_of_cell? _ _ (hHeld.2))).trans (hHeld.2)
                                          clear hg_ hnew_
                                          (first | rw [← Ny337.out] at ho43 | (simp only [Int.reduceToNat] at ho43; rw [← Ny337.out] at ho43))
                                          have n0_ := Aside0.mk (Kd.Q_elder' (qq12 HO_5.out) (Kd.R_base ho43) hb)
                                          have n1_ := Aside0.mk (Kd.R_elder' (qq4 HO327.out) (Kd.R_base ho43) hb)
                                          have n2_ := Aside0.mk (Kd.R_elder' (qq4 HO335.out) (Kd.R_base ho43) hb)
                                          have n3_ := Aside0.mk (Kd.R_lower (Kd.R_new' (Kd.R_new' (Kd.R_new' ho43 (Kd.Q_lt (qq12 HO_5.out))) (Kd.R_lt (qq4 HO327.out))) (Kd.R_lt (qq4 HO335.out))) (below_size qq1))
                                          have n4_ := Aside0.mk (below_step qq1 hb)
                                          clear HO_5
                                          clear HO327
                                          clear HO335
                                          clear HB
                                          have HO_5 := n0_
                                          have HO327 := n1_
                                          have HO335 := n2_
                                          have HO339 := n3_
                                          have HB := n4_
                                          clear n0_ n1_ n2_ n3_ n4_
                                          clear hb ho43
                                          refine hK.out _ _ ⟨HS0_, HS1_⟩ (fun hHeld => ?_)
                                          clear hK K
                                          refine norm_ (a' := ?_) ?_ ?_
                                          rotate_left
                                          · show Act.put _ (some 60) _ = _
                                            simp only [Act.put, List.setIfInBounds_toArray, List.set_cons_zero, List.set_cons_succ, i64_w, i32_w]
                                            rfl
                                          exact norm_ qq41 (hCont (v331, v334, v338) _ ⟨hHeld, (qq48 HO327.out), (qq48 HO335.out), (by (with_reducible repeat (first | apply Kd.R_alloc | apply Kd.R_drewN | apply Kd.R_drew)); exact Kd.R_mono HO339.out (fun _ hk => ⟨hk.1.2, ⟨hk.2, hk.1.1.2⟩⟩)), (by (with_reducible repeat (first | apply Kd.Q_alloc | apply Kd.Q_drewN | apply Kd.Q_drew)); exact Kd.Q_mono HO_5.out (fun _ hk => ⟨hk.1.1, ⟨hk.1.2, hk.2⟩⟩)), qq1⟩)
                                        · skip
                                          refine Kd.R_lit_step k32 _ 32 ?hg (N := 60) ?hd (xs := ([(⟨(rd_T32 t319 (ji20)).f0, (rd_T32 t319 (ji20)).f1⟩ : S32)] : List (S32))) (inner := [.int .i64 ((rd_T32 t319 (ji20)).f0), .int .i64 ((rd_T32 t319 (ji20)).f1)]) (ok := fun _ => True) (okp := fun _ => True) ?hr ?hp (fun _ hk => hk) trivial (Below.refl _ _) (Nat.le_refl _) (by simp) ?_; (case hd => rfl); (case hg => rfl); (case hr => exact qq21); (case hp => exact qq38)
                                          intro v338 w41 ho42 hb hg_ hnew_
                                          have HS0_ := (hb.cell (World.block_lt_of_cell? _ _ (hHeld.1))).trans (hHeld.1)
                                          have HS1_ := (hb.cell (World.block_lt_of_cell? _ _ (hHeld.2))).trans (hHeld.2)
                                          clear hg_ hnew_
                                          (first | rw [← Ny337.out] at ho42 | (simp only [Int.reduceToNat] at ho42; rw [← Ny337.out] at ho42))
                                          have n0_ := Aside0.mk (Kd.Q_elder' (qq12 HO_5.out) (Kd.R_base ho42) hb)
                                          have n1_ := Aside0.mk (Kd.R_elder' (qq4 HO327.out) (Kd.R_base ho42) hb)
                                          have n2_ := Aside0.mk (Kd.R_elder' (qq4 HO332.out) (Kd.R_base ho42) hb)
                                          have n3_ := Aside0.mk (Kd.R_lower (Kd.R_new' (Kd.R_new' (Kd.R_new' ho42 (Kd.Q_lt (qq12 HO_5.out))) (Kd.R_lt (qq4 HO327.out))) (Kd.R_lt (qq4 HO332.out))) (below_size qq1))
                                          have n4_ := Aside0.mk (below_step qq1 hb)
                                          clear HO_5
                                          clear HO327
                                          clear HO332
                                          clear HB
                                          have HO_5 := n0_
                                          have HO327 := n1_
                                          have HO332 := n2_
                                          have HO339 := n3_
                                          have HB := n4_
                                          clear n0_ n1_ n2_ n3_ n4_
                                          clear hb ho42
                                          refine hK.out _ _ ⟨HS0_, HS1_⟩ (fun hHeld => ?_)
                                          clear hK K
                                          refine norm_ (a' := ?_) ?_ ?_
                                          rotate_left
                                          · show Act.put _ (some 60) _ = _
                                            simp only [Act.put, List.setIfInBounds_toArray, List.set_cons_zero, List.set_cons_succ, i64_w, i32_w]
                                            rfl
                                          refine one_ (i := 2) (N := some 55) #[true, true, true, true, true, true, true, true, false, false] rfl rfl (one_of HT_.out (by kernel_rfl)) (by decide) (fun K hK => ?_)
                                          refine Kd.R_append_rows_step k32 (w0 := w) w.heap.size (by rfl) (.tmp 53) (.tmp 54) 23 32 (.agg #[(.int .i64 0), (.int .i64 0)]) 16 rfl Try.underlying23 info32 rfl (by decide) (by omega) v331 y330 t319 _ _ _ (fun k_ => some k_ ≠ (.slice (some ad336) t319.length co11 : Value).ownBlock ∧ some k_ ≠ (v326 : Value).ownBlock ∧ some k_ ≠ (v338 : Value).ownBlock) (fun _ => False) rfl rfl ?aO ?aR (fun _ _ h => h) (fun _ h => h.elim) ?aF ?aB ?aS ?aL ?_
                                          (case aR => exact qq29 HO_5.out)
                                          (case aB => exact qq1)
                                          (case aF => exact qq58)
                                          (case aO => exact qq66)
                                          (case aS => exact (below_size qq1))
                                          (case aL => have := LMc19.out; omega)
                                          intro v334 w43 ho hb hg hat
                                          have HS0_ := cell_grown hg (hHeld.1) qq16
                                          have HS1_ := cell_grown hg (hHeld.2) qq16
                                          rw [← Ny333.out] at ho
                                          have n0_ := Aside0.mk (Kd.Q_after (ok := (fun k_ => some k_ ≠ (v326 : Value).ownBlock ∧ some k_ ≠ (v338 : Value).ownBlock)) (by (with_reducible repeat (first | apply Kd.Q_alloc | apply Kd.Q_drewN | apply Kd.Q_drew)); exact Kd.Q_mono HO_5.out (fun _ hk => ⟨⟨hk.1.1.2, hk.2⟩, hk.1.2⟩)) hg hat)
                                          have n1_ := Aside0.mk (Kd.R_after (ok := (fun k_ => some k_ ≠ (.slice (some ad336) t319.length co11 : Value).ownBlock ∧ some k_ ≠ (v338 : Value).ownBlock)) (by (with_reducible repeat (first | apply Kd.R_alloc | apply Kd.R_drewN | apply Kd.R_drew)); exact Kd.R_mono HO327.out (fun _ hk => ⟨⟨hk.1.1.2, hk.2⟩, hk.1.2⟩)) hg hat)
                                          have n2_ := Aside0.mk (Kd.R_after (ok := (fun k_ => some k_ ≠ (.slice (some ad336) t319.length co11 : Value).ownBlock ∧ some k_ ≠ (v326 : Value).ownBlock)) (qq60 HO339.out) hg hat)
                                          have n3_ := Aside0.mk (hb)
                                          have n4_ := Aside0.mk (ho)
                                          clear HO_5
                                          clear HO327
                                          clear HO339
                                          clear HB
                                          clear HO332
                                          have HO_5 := n0_
                                          have HO327 := n1_
                                          have HO339 := n2_
                                          have HB := n3_
                                          have HO335 := n4_
                                          clear n0_ n1_ n2_ n3_ n4_
                                          clear ho hb hg hat
                                          refine hK.out _ _ ⟨HS0_, HS1_⟩ (fun hHeld => ?_)
                                          clear hK K
                                          refine norm_ (a' := ?_) ?_ ?_
                                          rotate_left
                                          · show Act.put _ (some 55) _ = _
                                            simp only [Act.put, List.setIfInBounds_toArray, List.set_cons_zero, List.set_cons_succ, i64_w, i32_w]
                                            rfl
                                          exact norm_ qq41 (hCont (v331, v334, v338) _ ⟨hHeld, qq67, qq68, (qq48 HO339.out), qq69, qq1⟩)
                                      · skip
                                        refine Kd.R_lit_step k32 _ 32 ?hg (N := 60) ?hd (xs := ([(⟨(rd_T32 t319 (ji20)).f0, (rd_T32 t319 (ji20)).f1⟩ : S32)] : List (S32))) (inner := [.int .i64 ((rd_T32 t319 (ji20)).f0), .int .i64 ((rd_T32 t319 (ji20)).f1)]) (ok := fun _ => True) (okp := fun _ => True) ?hr ?hp (fun _ hk => hk) trivial (Below.refl _ _) (Nat.le_refl _) (by simp) ?_; (case hd => rfl); (case hg => rfl); (case hr => exact qq21); (case hp => exact qq38)
                                        intro v338 w39 ho40 hb hg_ hnew_
                                        have HS0_ := (hb.cell (World.block_lt_of_cell? _ _ (hHeld.1))).trans (hHeld.1)
                                        have HS1_ := (hb.cell (World.block_lt_of_cell? _ _ (hHeld.2))).trans (hHeld.2)
                                        clear hg_ hnew_
                                        (first | rw [← Ny337.out] at ho40 | (simp only [Int.reduceToNat] at ho40; rw [← Ny337.out] at ho40))
                                        have n0_ := Aside0.mk (Kd.Q_elder' (qq12 HO_5.out) (Kd.R_base ho40) hb)
                                        have n1_ := Aside0.mk (Kd.R_elder' (qq4 HO327.out) (Kd.R_base ho40) hb)
                                        have n2_ := Aside0.mk (Kd.R_lower (Kd.R_new' (Kd.R_new' ho40 (Kd.Q_lt (qq12 HO_5.out))) (Kd.R_lt (qq4 HO327.out))) (below_size qq1))
                                        have n3_ := Aside0.mk (below_step qq1 hb)
                                        clear HO_5
                                        clear HO327
                                        clear HB
                                        have HO_5 := n0_
                                        have HO327 := n1_
                                        have HO339 := n2_
                                        have HB := n3_
                                        clear n0_ n1_ n2_ n3_
                                        clear hb ho40
                                        refine hK.out _ _ ⟨HS0_, HS1_⟩ (fun hHeld => ?_)
                                        clear hK K
                                        refine norm_ (a' := ?_) ?_ ?_
                                        rotate_left
                                        · show Act.put _ (some 60) _ = _
                                          simp only [Act.put, List.setIfInBounds_toArray, List.set_cons_zero, List.set_cons_succ, i64_w, i32_w]
                                          rfl
                                        refine one_ (i := 0) (N := some 53) #[true, true, false, true, true, true, true, true, false, false] rfl rfl (one_of HT_.out (by kernel_rfl)) (by decide) (fun K hK => ?_)
                                        refine Kd.R_lit_step k32 _ 32 ?hg (N := 53) ?hd (xs := ([] : List (S32))) (inner := []) (ok := fun _ => True) (okp := fun _ => True) ?hr ?hp (fun _ hk => hk) trivial (Below.refl _ _) (Nat.le_refl _) (by simp) ?_; (case hd => rfl); (case hg => rfl); (case hr => exact qq21); (case hp => exact (Reps.none _ _))
                                        intro v331 w41 ho42 hb hg_ hnew_
                                        have HS0_ := (hb.cell (World.block_lt_of_cell? _ _ (hHeld.1))).trans (hHeld.1)
                                        have HS1_ := (hb.cell (World.block_lt_of_cell? _ _ (hHeld.2))).trans (hHeld.2)
                                        clear hg_ hnew_
                                        (first | rw [← Ny330.out] at ho42 | (simp only [Int.reduceToNat] at ho42; rw [← Ny330.out] at ho42))
                                        have n0_ := Aside0.mk (Kd.Q_elder' (qq12 HO_5.out) (Kd.R_base ho42) hb)
                                        have n1_ := Aside0.mk (Kd.R_elder' (qq4 HO327.out) (Kd.R_base ho42) hb)
                                        have n2_ := Aside0.mk (Kd.R_elder' (qq4 HO339.out) (Kd.R_base ho42) hb)
                                        have n3_ := Aside0.mk (Kd.R_lower (Kd.R_new' (Kd.R_new' (Kd.R_new' ho42 (Kd.Q_lt (qq12 HO_5.out))) (Kd.R_lt (qq4 HO327.out))) (Kd.R_lt (qq4 HO339.out))) (below_size qq1))
                                        have n4_ := Aside0.mk (below_step qq1 hb)
                                        clear HO_5
                                        clear HO327
                                        clear HO339
                                        clear HB
                                        have HO_5 := n0_
                                        have HO327 := n1_
                                        have HO339 := n2_
                                        have HO332 := n3_
                                        have HB := n4_
                                        clear n0_ n1_ n2_ n3_ n4_
                                        clear hb ho42
                                        refine hK.out _ _ ⟨HS0_, HS1_⟩ (fun hHeld => ?_)
                                        clear hK K
                                        refine norm_ (a' := ?_) ?_ ?_
                                        rotate_left
                                        · show Act.put _ (some 53) _ = _
                                          simp only [Act.put, List.setIfInBounds_toArray, List.set_cons_zero, List.set_cons_succ, i64_w, i32_w]
                                          rfl
                                        refine one_ (i := 2) (N := some 55) #[true, true, true, true, true, true, true, true, false, false] rfl rfl (one_of HT_.out (by kernel_rfl)) (by decide) (fun K hK => ?_)
                                        refine Kd.R_append_rows_step k32 (w0 := w) w.heap.size (by rfl) (.tmp 53) (.tmp 54) 23 32 (.agg #[(.int .i64 0), (.int .i64 0)]) 16 rfl Try.underlying23 info32 rfl (by decide) (by omega) v331 y330 t319 _ _ _ (fun k_ => some k_ ≠ (.slice (some ad336) t319.length co11 : Value).ownBlock ∧ some k_ ≠ (v326 : Value).ownBlock ∧ some k_ ≠ (v338 : Value).ownBlock) (fun _ => False) rfl rfl ?aO ?aR (fun _ _ h => h) (fun _ h => h.elim) ?aF ?aB ?aS ?aL ?_
                                        (case aR => exact qq29 HO_5.out)
                                        (case aB => exact qq1)
                                        (case aF => exact qq58)
                                        (case aO => exact qq66)
                                        (case aS => exact (below_size qq1))
                                        (case aL => have := LMc19.out; omega)
                                        intro v334 w43 ho hb hg hat
                                        have HS0_ := cell_grown hg (hHeld.1) qq16
                                        have HS1_ := cell_grown hg (hHeld.2) qq16
                                        rw [← Ny333.out] at ho
                                        have n0_ := Aside0.mk (Kd.Q_after (ok := (fun k_ => some k_ ≠ (v326 : Value).ownBlock ∧ some k_ ≠ (v338 : Value).ownBlock)) (by (with_reducible repeat (first | apply Kd.Q_alloc | apply Kd.Q_drewN | apply Kd.Q_drew)); exact Kd.Q_mono HO_5.out (fun _ hk => ⟨⟨hk.1.1.2, hk.1.2⟩, hk.2⟩)) hg hat)
                                        have n1_ := Aside0.mk (Kd.R_after (ok := (fun k_ => some k_ ≠ (.slice (some ad336) t319.length co11 : Value).ownBlock ∧ some k_ ≠ (v338 : Value).ownBlock)) (qq60 HO327.out) hg hat)
                                        have n2_ := Aside0.mk (Kd.R_after (ok := (fun k_ => some k_ ≠ (.slice (some ad336) t319.length co11 : Value).ownBlock ∧ some k_ ≠ (v326 : Value).ownBlock)) (qq60 HO339.out) hg hat)
                                        have n3_ := Aside0.mk (hb)
                                        have n4_ := Aside0.mk (ho)
                                        clear HO_5
                                        clear HO327
                                        clear HO339
                                        clear HB
                                        clear HO332
                                        have HO_5 := n0_
                                        have HO327 := n1_
                                        have HO339 := n2_
                                        have HB := n3_
                                        have HO335 := n4_
                                        clear n0_ n1_ n2_ n3_ n4_
                                        clear ho hb hg hat
                                        refine hK.out _ _ ⟨HS0_, HS1_⟩ (fun hHeld => ?_)
                                        clear hK K
                                        refine norm_ (a' := ?_) ?_ ?_
                                        rotate_left
                                        · show Act.put _ (some 55) _ = _
                                          simp only [Act.put, List.setIfInBounds_toArray, List.set_cons_zero, List.set_cons_succ, i64_w, i32_w]
                                          rfl
                                        exact norm_ qq41 (hCont (v331, v334, v338) _ ⟨hHeld, qq67, qq68, (qq48 HO339.out), qq69, qq1⟩)
                                    rintro ⟨v331, v334, v338⟩ w44 ⟨hS_, h0_, h1_, h2_, h3_, h4_⟩
                                    have n0_ : Aside0 (Kd.R k32 32 w44 w.heap.size (fun k_ => some k_ ≠ (v334 : Value).ownBlock ∧ some k_ ≠ (v338 : Value).ownBlock ∧ some k_ ≠ (.slice (some ad336) t319.length co11 : Value).ownBlock) v326 t324) := ⟨h0_⟩
                                    have n1_ : Aside0 (Kd.R k32 32 w44 w.heap.size (fun k_ => some k_ ≠ (v326 : Value).ownBlock ∧ some k_ ≠ (v338 : Value).ownBlock ∧ some k_ ≠ (.slice (some ad336) t319.length co11 : Value).ownBlock) v334 y333) := ⟨h1_⟩
                                    have n2_ : Aside0 (Kd.R k32 32 w44 w.heap.size (fun k_ => some k_ ≠ (v326 : Value).ownBlock ∧ some k_ ≠ (v334 : Value).ownBlock ∧ some k_ ≠ (.slice (some ad336) t319.length co11 : Value).ownBlock) v338 y337) := ⟨h2_⟩
                                    have n3_ : Aside0 (Kd.Q k32 32 w44 w.heap.size (fun k_ => some k_ ≠ (v326 : Value).ownBlock ∧ some k_ ≠ (v334 : Value).ownBlock ∧ some k_ ≠ (v338 : Value).ownBlock) (.slice (some ad336) t319.length co11) t319) := ⟨h3_⟩
                                    have n4_ : Aside0 (Below w.heap.size w w44) := ⟨h4_⟩
                                    clear HO_5
                                    clear HO327
                                    clear HB
                                    clear h0_ h1_ h2_ h3_ h4_
                                    have HO327 := n0_
                                    have HO335 := n1_
                                    have HO339 := n2_
                                    have HO_5 := n3_
                                    have HB := n4_
                                    clear n0_ n1_ n2_ n3_ n4_
                                    have hHeld : w44.cell? (ad336.add (((ji20)).toNat * 2)) = some (.int .i64 ((rd_T32 t319 (ji20)).f0)) ∧ w44.cell? ⟨(ad336.add (((ji20)).toNat * 2)).block, (ad336.add (((ji20)).toNat * 2)).off + 1, none⟩ = some (.int .i64 ((rd_T32 t319 (ji20)).f1)) := hS_
                                    obtain ⟨Ao46, co46, eo46⟩ := Kd.R_slice HO339.out
                                    (first | subst eo46 | (injection eo46 with f1_ f2_ f3_; have f4_ := f1_.symm; have f5_ := f3_.symm; clear f1_ f2_ f3_; subst f4_; subst f5_))
                                    refine norm_ (a' := ?_) ?_ ?_
                                    rotate_left
                                    · simp only [putAll, Act.put, List.setIfInBounds_toArray, List.set_cons_zero, List.set_cons_succ]
                                      rfl
                                    refine one_ (i := 8) (N := some 61) #[true, true, true, true, true, true, true, true, true, false] rfl rfl (one_of HT_.out (by kernel_rfl)) (by decide) (fun K hK => ?_)
                                    refine Kd.R_append_rows_step k32 (w0 := w) w.heap.size (by rfl) (.tmp 55) (.tmp 60) 23 32 (.agg #[(.int .i64 0), (.int .i64 0)]) 16 rfl Try.underlying23 info32 rfl (by decide) (by omega) v334 y333 y337 _ _ _ (fun k_ => some k_ ≠ (.slice (some ad336) t319.length co11 : Value).ownBlock ∧ some k_ ≠ (v326 : Value).ownBlock ∧ some k_ ≠ (.slice Ao46 y337.length co46 : Value).ownBlock) (fun _ => False) rfl rfl ?aO ?aR (fun _ _ h => h) (fun _ h => h.elim) ?aF ?aB ?aS ?aL ?_
                                    (case aR => exact qq33 HO339.out)
                                    (case aB => exact qq1)
                                    (case aF => exact qq58)
                                    (case aO => exact (by (with_reducible repeat (first | apply Kd.R_alloc | apply Kd.R_drewN | apply Kd.R_drew)); exact Kd.R_mono HO335.out (fun _ hk => ⟨hk.2.2, ⟨hk.1, hk.2.1⟩⟩)))
                                    (case aS => exact (below_size qq1))
                                    (case aL => have := LMc23.out; omega)
                                    intro v341 w45 ho hb hg hat
                                    have HS0_ := cell_grown hg (hHeld.1) qq30
                                    have HS1_ := cell_grown hg (hHeld.2) qq30
                                    rw [← Ny340.out] at ho
                                    have n0_ := Aside0.mk (Kd.Q_after (ok := (fun k_ => some k_ ≠ (v326 : Value).ownBlock ∧ some k_ ≠ (.slice Ao46 y337.length co46 : Value).ownBlock)) (by (with_reducible repeat (first | apply Kd.Q_alloc | apply Kd.Q_drewN | apply Kd.Q_drew)); exact Kd.Q_mono HO_5.out (fun _ hk => ⟨⟨hk.1, hk.2.2⟩, hk.2.1⟩)) hg hat)
                                    have n1_ := Aside0.mk (Kd.R_after (ok := (fun k_ => some k_ ≠ (.slice (some ad336) t319.length co11 : Value).ownBlock ∧ some k_ ≠ (.slice Ao46 y337.length co46 : Value).ownBlock)) (by (with_reducible repeat (first | apply Kd.R_alloc | apply Kd.R_drewN | apply Kd.R_drew)); exact Kd.R_mono HO327.out (fun _ hk => ⟨⟨hk.2.2, hk.2.1⟩, hk.1⟩)) hg hat)
                                    have n2_ := Aside0.mk (Kd.R_after (ok := (fun k_ => some k_ ≠ (.slice (some ad336) t319.length co11 : Value).ownBlock ∧ some k_ ≠ (v326 : Value).ownBlock)) (by (with_reducible repeat (first | apply Kd.R_alloc | apply Kd.R_drewN | apply Kd.R_drew)); exact Kd.R_mono HO339.out (fun _ hk => ⟨⟨hk.2.2, hk.1⟩, hk.2.1⟩)) hg hat)
                                    have n3_ := Aside0.mk (hb)
                                    have n4_ := Aside0.mk (ho)
                                    clear HO_5
                                    clear HO327
                                    clear HO339
                                    clear HB
                                    clear HO335
                                    have HO_5 := n0_
                                    have HO327 := n1_
                                    have HO339 := n2_
                                    have HB := n3_
                                    have HO342 := n4_
                                    clear n0_ n1_ n2_ n3_ n4_
                                    clear ho hb hg hat
                                    refine hK.out _ _ ⟨HS0_, HS1_⟩ (fun hHeld => ?_)
                                    clear hK K
                                    refine norm_ (a' := ?_) ?_ ?_
                                    rotate_left
                                    · show Act.put _ (some 61) _ = _
                                      simp only [Act.put, List.setIfInBounds_toArray, List.set_cons_zero, List.set_cons_succ, i64_w, i32_w]
                                      rfl
                                    refine pure_ (i := 9) (N := some 13) #[true, true, true, true, true, true, true, true, true, true] rfl rfl (any_of HT_.out (by kernel_rfl)) (fun _ _ _ h => h) (Or.inl ⟨by rfl, pA_⟩) pB_ ?_
                                    refine done_ (done_of HT_.out (by kernel_rfl)) ?_
                                    try go_wp2_with (first | (go_at_call 15; (with_reducible refine (laws_begunAt.calls _ _ t319 ji20 t343 _ ?side1 ?side2 A27.out).mono ?_); (case side1 => exact qq29 HO_5.out); (case side2 => exact (Kd.Q_reads' HO_5.out).2.1); rintro e w47 ⟨v344, rfl, ho0, hb⟩; have n0_ := Aside0.mk (Kd.Q_elder' (qq12 HO_5.out) (Kd.R_base ho0) hb); have n1_ := Aside0.mk (Kd.R_elder' (qq4 HO327.out) (Kd.R_base ho0) hb); have n2_ := Aside0.mk (Kd.R_elder' (qq4 HO339.out) (Kd.R_base ho0) hb); have n3_ := Aside0.mk (Kd.R_elder' (qq4 HO342.out) (Kd.R_base ho0) hb); have n4_ := Aside0.mk (Kd.R_lower (Kd.R_new' (Kd.R_new' (Kd.R_new' (Kd.R_new' ho0 (Kd.Q_lt (qq12 HO_5.out))) (Kd.R_lt (qq4 HO327.out))) (Kd.R_lt (qq4 HO339.out))) (Kd.R_lt (qq4 HO342.out))) (below_size qq1)); have n5_ := Aside0.mk (below_step qq1 hb); clear HO_5; clear HO327; clear HO339; clear HO342; clear HB; have HO_5 := n0_; have HO327 := n1_; have HO339 := n2_; have HO342 := n3_; have HO345 := n4_; have HB := n5_; clear n0_ n1_ n2_ n3_ n4_ n5_; (try clear hb); (try clear hb2); (try clear hk); (try clear hi); (try clear ho0); obtain ⟨Ao48, co48, eo48⟩ := Kd.R_slice HO345.out; subst eo48) | (go_at_call 18; (with_reducible refine (impl_PolyValid.calls _ _ t343 true _ ?side1 ?side2 A28.out).mono ?_); (case side1 => exact qq33 HO345.out); (case side2 => exact (Kd.R_reads' HO345.out).2.1); rintro e w49 ⟨rfl, hb⟩; have n0_ := Aside0.mk (Kd.Q_below (qq12 HO_5.out) hb); have n1_ := Aside0.mk (Kd.R_below (qq4 HO327.out) hb); have n2_ := Aside0.mk (Kd.R_below (qq4 HO339.out) hb); have n3_ := Aside0.mk (Kd.R_below (qq4 HO342.out) hb); have n4_ := Aside0.mk (Kd.R_below (qq4 HO345.out) hb); have n5_ := Aside0.mk (below_step qq1 hb); clear HO_5; clear HO327; clear HO339; clear HO342; clear HO345; clear HB; have HO_5 := n0_; have HO327 := n1_; have HO339 := n2_; have HO342 := n3_; have HO345 := n4_; have HB := n5_; clear n0_ n1_ n2_ n3_ n4_ n5_; (try clear hb); (try clear hb2); (try clear hk); (try clear hi); obtain ⟨Ao50, co50, eo50⟩ := Kd.R_slice HO327.out; subst eo50) | (go_at_call 18; (with_reducible refine (impl_PolyValid.calls _ _ t324 true _ ?side1 ?side2 A30.out).mono ?_); (case side1 => exact qq33 HO327.out); (case side2 => exact (Kd.R_reads' HO327.out).2.1); rintro e w51 ⟨rfl, hb⟩; have n0_ := Aside0.mk (Kd.Q_below (qq12 HO_5.out) hb); have n1_ := Aside0.mk (Kd.R_below (qq4 HO327.out) hb); have n2_ := Aside0.mk (Kd.R_below (qq4 HO339.out) hb); have n3_ := Aside0.mk (Kd.R_below (qq4 HO342.out) hb); have n4_ := Aside0.mk (Kd.R_below (qq4 HO345.out) hb); have n5_ := Aside0.mk (below_step qq1 hb); clear HO_5; clear HO327; clear HO339; clear HO342; clear HO345; clear HB; have HO_5 := n0_; have HO327 := n1_; have HO339 := n2_; have HO342 := n3_; have HO345 := n4_; have HB := n5_; clear n0_ n1_ n2_ n3_ n4_ n5_; (try clear hb); (try clear hb2); (try clear hk); (try clear hi)) | (go_at_call 16; (with_reducible refine (laws_turned.calls kj8 _ _ t319 t348 _ ?side1 ?side2 A32.out).mono ?_); (case side1 => exact qq29 HO_5.out); (case side2 => exact (Kd.Q_reads' HO_5.out).2.1); rintro e w52 ⟨v349, rfl, ho0, hb⟩; have n0_ := Aside0.mk (Kd.Q_elder' (qq12 HO_5.out) (Kd.R_base ho0) hb); have n1_ := Aside0.mk (Kd.R_elder' (qq4 HO327.out) (Kd.R_base ho0) hb); have n2_ := Aside0.mk (Kd.R_elder' (qq4 HO339.out) (Kd.R_base ho0) hb); have n3_ := Aside0.mk (Kd.R_elder' (qq4 HO342.out) (Kd.R_base ho0) hb); have n4_ := Aside0.mk (Kd.R_elder' (qq4 HO345.out) (Kd.R_base ho0) hb); have n5_ := Aside0.mk (Kd.R_lower (Kd.R_new' (Kd.R_new' (Kd.R_new' (Kd.R_new' (Kd.R_new' ho0 (Kd.Q_lt (qq12 HO_5.out))) (Kd.R_lt (qq4 HO327.out))) (Kd.R_lt (qq4 HO339.out))) (Kd.R_lt (qq4 HO342.out))) (Kd.R_lt (qq4 HO345.out))) (below_size qq1)); have n6_ := Aside0.mk (below_step qq1 hb); clear HO_5; clear HO327; clear HO339; clear HO342; clear HO345; clear HB; have HO_5 := n0_; have HO327 := n1_; have HO339 := n2_; have HO342 := n3_; have HO345 := n4_; have HO350 := n5_; have HB := n6_; clear n0_ n1_ n2_ n3_ n4_ n5_ n6_; (try clear hb); (try clear hb2); (try clear hk); (try clear hi); (try clear ho0); obtain ⟨Ao53, co53, eo53⟩ := Kd.R_slice HO350.out; subst eo53) | (go_at_call 18; (with_reducible refine (impl_PolyValid.calls _ _ t348 true _ ?side1 ?side2 A33.out).mono ?_); (case side1 => exact qq33 HO350.out); (case side2 => exact (Kd.R_reads' HO350.out).2.1); rintro e w54 ⟨rfl, hb⟩; have n0_ := Aside0.mk (Kd.Q_below (qq12 HO_5.out) hb); have n1_ := Aside0.mk (Kd.R_below (qq4 HO327.out) hb); have n2_ := Aside0.mk (Kd.R_below (qq4 HO339.out) hb); have n3_ := Aside0.mk (Kd.R_below (qq4 HO342.out) hb); have n4_ := Aside0.mk (Kd.R_below (qq4 HO345.out) hb); have n5_ := Aside0.mk (Kd.R_below (qq4 HO350.out) hb); have n6_ := Aside0.mk (below_step qq1 hb); clear HO_5; clear HO327; clear HO339; clear HO342; clear HO345; clear HO350; clear HB; have HO_5 := n0_; have HO327 := n1_; have HO339 := n2_; have HO342 := n3_; have HO345 := n4_; have HO350 := n5_; have HB := n6_; clear n0_ n1_ n2_ n3_ n4_ n5_ n6_; (try clear hb); (try clear hb2); (try clear hk); (try clear hi); obtain ⟨Ao55, co55, eo55⟩ := Kd.R_slice HO342.out; subst eo55) | (go_at_call 18; (with_reducible refine (impl_PolyValid.calls _ _ y340 t352 _ ?side1 ?side2 A35.out).mono ?_); (case side1 => exact qq33 HO342.out); (case side2 => exact (Kd.R_reads' HO342.out).2.1); rintro e w56 ⟨rfl, hb⟩; have n0_ := Aside0.mk (Kd.Q_below (qq12 HO_5.out) hb); have n1_ := Aside0.mk (Kd.R_below (qq4 HO327.out) hb); have n2_ := Aside0.mk (Kd.R_below (qq4 HO339.out) hb); have n3_ := Aside0.mk (Kd.R_below (qq4 HO342.out) hb); have n4_ := Aside0.mk (Kd.R_below (qq4 HO345.out) hb); have n5_ := Aside0.mk (Kd.R_below (qq4 HO350.out) hb); have n6_ := Aside0.mk (below_step qq1 hb); clear HO_5; clear HO327; clear HO339; clear HO342; clear HO345; clear HO350; clear HB; have HO_5 := n0_; have HO327 := n1_; have HO339 := n2_; have HO342 := n3_; have HO345 := n4_; have HO350 := n5_; have HB := n6_; clear n0_ n1_ n2_ n3_ n4_ n5_ n6_; (try clear hb); (try clear hb2); (try clear hk); (try clear hi)))
                                    go_ret
                                    exact ⟨by first | rfl | (simp [errW_none, errW_some] <;> rfl) | (simp only [← hji20]; first | rfl | (simp [errW_none, errW_some] <;> rfl)) | (simp [*, errW_none, errW_some] <;> rfl), qq1⟩
                                  · replace c34 := Bool.eq_false_iff.mpr c34
                                    subst c34
                                    have H1 : (some false) = some r := by rw [if_neg (show ¬ (false = true) by decide)] at H; exact H
                                    clear H
                                    have H := H1
                                    clear H1
                                    exact absurd ((Option.some.inj H).trans hT.out) (by decide)
                                · replace c31 := Bool.eq_false_iff.mpr c31
                                  subst c31
                                  have H1 : (some false) = some r := by rw [if_neg (show ¬ (false = true) by decide)] at H; exact H
                                  clear H
                                  have H := H1
                                  clear H1
                                  exact absurd ((Option.some.inj H).trans hT.out) (by decide)
                              · replace c29 := Bool.eq_false_iff.mpr c29
                                subst c29
                                have H1 : (some false) = some r := by rw [if_neg (show ¬ (false = true) by decide)] at H; exact H
                                clear H
                                have H := H1
                                clear H1
                                exact absurd ((Option.some.inj H).trans hT.out) (by decide)
                          · replace c25 := Bool.eq_false_iff.mpr c25
                            subst c25
                            have H1 : (some false) = some r := by rw [if_neg (show ¬ (false = true) by decide)] at H; exact H
                            clear H
                            have H := H1
                            clear H1
                            exact absurd ((Option.some.inj H).trans hT.out) (by decide)
                        · replace c24 := Bool.eq_false_iff.mpr c24
                          subst c24
                          have H1 : (some false) = some r := by rw [if_neg (show ¬ (false = true) by decide)] at H; exact H
                          clear H
                          have H := H1
                          clear H1
                          exact absurd ((Option.some.inj H).trans hT.out) (by decide)
                      · rw [if_neg c23] at H
                        exact absurd H (by simp)
                    · rw [if_neg c22] at H
                      exact absurd H (by simp)
                  · rw [if_neg c21] at H
                    exact absurd H (by simp)
                · rw [if_neg c19] at H
                  exact absurd H (by simp)

/-- THE ONE PURE STATEMENT of laws_FnPoly: yours. -/
def laws_FnPoly.Pure : Prop := ∀ (l0 : List Int) (l1 : List Int), l0.length ≤ maxLen → l0.length * 1 ≤ 140737488351232 → (∀ x ∈ l0, (Lit.int .u8 x).wf = true) → l1.length ≤ maxLen → l1.length * 1 ≤ 140737488351232 → (∀ x ∈ l1, (Lit.int .u8 x).wf = true) → ∃ k, laws_FnPoly.f k l0 l1 = some true
theorem laws_FnPoly.walk (P : laws_FnPoly.Pure) (a0 : Option Addr) (len0 cap0 : Nat) (z0 : List Int) (a1 : Option Addr) (len1 cap1 : Nat) (z1 : List Int) (w : World) (w0 : (a0 = none ∧ len0 = 0 ∧ cap0 = 0 ∧ z0 = []) ∨ ∃ x, a0 = some x ∧ len0 ≤ cap0 ∧ cap0 ≤ maxLen ∧ z0.length = cap0 ∧ (∀ i, i < z0.length → w.cell? (x.add i) = some (.int .u8 (z0.getD i 0))) ∧ ∀ n ∈ z0, (Lit.int .u8 n).wf = true) (y0 : len0 * 1 ≤ 140737488351232) (w1 : (a1 = none ∧ len1 = 0 ∧ cap1 = 0 ∧ z1 = []) ∨ ∃ x, a1 = some x ∧ len1 ≤ cap1 ∧ cap1 ≤ maxLen ∧ z1.length = cap1 ∧ (∀ i, i < z1.length → w.cell? (x.add i) = some (.int .u8 (z1.getD i 0))) ∧ ∀ n ∈ z1, (Lit.int .u8 n).wf = true) (y1 : len1 * 1 ≤ 140737488351232) :
    Calls Try.prog 4 #[.slice a0 len0 cap0, .slice a1 len1 cap1] w fun e w' => e = .returned (.bool true) ∧ Below w.heap.size w w' := by
  obtain ⟨l0, rfl, hr0, hm0, hw0, hc0⟩ := ReadsInt.ofRowC w0
  obtain ⟨l1, rfl, hr1, hm1, hw1, hc1⟩ := ReadsInt.ofRowC w1
  obtain ⟨k, h⟩ := P l0 l1 hm0 y0 hw0 hm1 y1 hw1
  refine (laws_FnPoly.calls k _ _ l0 _ _ l1 true w (Kd.C_of_reads (d := (0 : Int)) (h1 := fun _ => rfl) hr0) hc0 (Kd.C_of_reads (d := (0 : Int)) (h1 := fun _ => rfl) hr1) hc1 h rfl).mono ?_
  rintro e w' ⟨rfl, hd⟩
  exact ⟨rfl, hd⟩

end Go.Proofs.Ytgdhgncdpmalcaa.Q
namespace Go.Proofs.Ytgdhgncdpmalcaa.Geo
set_option linter.unusedVariables false
/-! ### Sums -/
def sm (lo : Nat) : Nat → (Nat → Int) → Int
  | 0, _ => 0
  | k + 1, f => sm lo k f + f (lo + k)
theorem sm_congr {lo k : Nat} {f g : Nat → Int} (h : ∀ j, lo ≤ j → j < lo + k → f j = g j) : sm lo k f = sm lo k g := by
  induction k with
  | zero => rfl
  | succ k ih => simp only [sm]; rw [ih (fun j a b => h j a (by omega)), h (lo + k) (by omega) (by omega)]
theorem sm_tele (lo k : Nat) (f : Nat → Int) : sm lo k (fun j => f (j + 1) - f j) = f (lo + k) - f lo := by
  induction k with
  | zero => simp [sm]
  | succ k ih => simp only [sm]; rw [ih, show lo + (k + 1) = lo + k + 1 from rfl]; omega
theorem sm_first (lo k : Nat) (f : Nat → Int) : sm lo (k + 1) f = f lo + sm (lo + 1) k f := by
  induction k with
  | zero => simp [sm]
  | succ k ih => rw [sm, ih, sm, show lo + 1 + k = lo + (k + 1) from by omega]; omega
theorem sm_add (lo k : Nat) (f g : Nat → Int) : sm lo k (fun j => f j + g j) = sm lo k f + sm lo k g := by
  induction k with
  | zero => rfl
  | succ k ih => simp only [sm]; rw [ih]; omega
theorem sm_sub (lo k : Nat) (f g : Nat → Int) : sm lo k (fun j => f j - g j) = sm lo k f - sm lo k g := by
  induction k with
  | zero => rfl
  | succ k ih => simp only [sm]; rw [ih]; omega
theorem sm_zero {lo k : Nat} {f : Nat → Int} (h : ∀ j, lo ≤ j → j < lo + k → f j = 0) : sm lo k f = 0 := by
  induction k with
  | zero => rfl
  | succ k ih => simp only [sm]; rw [ih (fun j a b => h j a (by omega)), h (lo + k) (by omega) (by omega)]; rfl
theorem sm_shift (lo k : Nat) (f : Nat → Int) (h : f (lo + k) = f lo) : sm (lo + 1) k f = sm lo k f := by
  have a := sm_first lo k f
  simp only [sm] at a
  omega
theorem sm_period {n : Nat} {f : Nat → Int} (h : ∀ i, f (i + n) = f i) (lo : Nat) : sm lo n f = sm 0 n f := by
  induction lo with
  | zero => rfl
  | succ lo ih => rw [sm_shift lo n f (h lo), ih]
theorem sm_split (lo a b : Nat) (f : Nat → Int) : sm lo (a + b) f = sm lo a f + sm (lo + a) b f := by
  induction b with
  | zero => simp [sm]
  | succ b ih => rw [show a + (b + 1) = (a + b) + 1 from rfl, sm, ih, sm, show lo + (a + b) = lo + a + b from by omega]; omega
/-- A row of cells. -/
theorem sm_cells {lo k : Nat} {f g h : Nat → Int} (H : ∀ j, lo ≤ j → j < lo + k → f j + h (j + 1) = g j + h j) : sm lo k f + h (lo + k) = sm lo k g + h lo := by
  have e : sm lo k f = sm lo k (fun j => g j - (h (j + 1) - h j)) := sm_congr (fun j a b => by have := H j a b; omega)
  have e2 := sm_sub lo k g (fun j => h (j + 1) - h j)
  rw [sm_tele] at e2
  rw [e, e2]; omega

theorem sm_neg (lo k : Nat) (f : Nat → Int) : sm lo k (fun j => -(f j)) = -(sm lo k f) := by
  induction k with
  | zero => rfl
  | succ k ih => simp only [sm]; rw [ih]; omega
theorem sm_rev (k : Nat) (f : Nat → Int) : sm 0 k (fun j => f (k - 1 - j)) = sm 0 k f := by
  induction k with
  | zero => rfl
  | succ k ih =>
    rw [sm_first, sm]
    have : sm (0 + 1) k (fun j => f (k + 1 - 1 - j)) = sm 0 k (fun j => f (k - 1 - j)) := by
      have sh : ∀ (m : Nat) (g h : Nat → Int), (∀ j, j < m → g (j + 1) = h j) → sm (0 + 1) m g = sm 0 m h := by
        intro m g h
        induction m with
        | zero => intro _; rfl
        | succ m ihm => intro hh; simp only [sm]; rw [ihm (fun j hj => hh j (by omega)), show 0 + 1 + m = m + 1 from by omega, hh m (by omega), Nat.zero_add]
      exact sh k _ _ (fun j hj => by rw [show k + 1 - 1 - (j + 1) = k - 1 - j from by omega])
    rw [this, ih, Nat.zero_add, show k + 1 - 1 - 0 = k from by omega]
    omega
theorem sm_sh (m lo : Nat) (g : Nat → Int) : sm lo m g = sm 0 m (fun j => g (lo + j)) := by
  induction m with
  | zero => rfl
  | succ m ih => simp only [sm]; rw [ih, Nat.zero_add]
theorem sm_bd {lo k : Nat} {f : Nat → Int} {B : Int} (h : ∀ j, lo ≤ j → j < lo + k → -B ≤ f j ∧ f j ≤ B) : -(B * k) ≤ sm lo k f ∧ sm lo k f ≤ B * k := by
  induction k with
  | zero => simp [sm]
  | succ k ih =>
    have h1 := ih (fun j a b => h j a (by omega))
    have h2 := h (lo + k) (by omega) (by omega)
    have e : B * ((k + 1 : Nat) : Int) = B * (k : Int) + B := by rw [Int.natCast_add, Int.mul_add]; simp
    rw [sm, e]
    omega
end Go.Proofs.Ytgdhgncdpmalcaa.Geo
namespace Go.Proofs.Ytgdhgncdpmalcaa.Pure
open Go.RowKit Go.Proofs.Ytgdhgncdpmalcaa.Q Go.Proofs.YtgdhgncdpmalcaaW.PrintWords Go.Proofs.YtgdhgncdpmalcaaW.PrintLast
/-- The first corner, then the others from the last one on. -/
def backL : List Pt → List Pt
  | [] => []
  | p :: l => p :: l.reverse
theorem Back_same (l : List Pt) (k : Nat) : ∀ (x : List Pt) (i : Int), impl_PolyBack.l0 k l x i = spec_PolyBack.l0 k l x i := by
  induction k with
  | zero => intro x i; simp only [impl_PolyBack.l0, spec_PolyBack.l0]
  | succ k ih => intro x i; simp only [impl_PolyBack.l0, spec_PolyBack.l0, ih]
theorem Back_ok {p : Pt} {l : List Pt} (hl : l.length ≤ 100) (n : Nat) : ∀ (x : List Pt) (k : Nat), n < k → n ≤ l.length → x.length ≤ 200 - n → spec_PolyBack.l0 k (p :: l) x (n : Int) = some (x ++ (l.take n).reverse, true) := by
  induction n with
  | zero =>
    intro x k hk _ _
    obtain ⟨k, rfl⟩ : ∃ m, k = m + 1 := ⟨k - 1, by omega⟩
    rw [spec_PolyBack.l0, if_neg (by omega)]
    simp
  | succ n ih =>
    intro x k hk hn hx
    obtain ⟨k, rfl⟩ : ∃ m, k = m + 1 := ⟨k - 1, by omega⟩
    rw [spec_PolyBack.l0, if_pos (by omega), if_pos (by omega), if_pos (by simp; omega), if_pos (by omega), pw64 (by omega) (by omega), show ((n + 1 : Nat) : Int) - 1 = n by omega, ih _ k (by omega) (by omega) (by simp; omega)]
    have e : rd_T32 (p :: l) ((n + 1 : Nat) : Int) = l[n] := by simp [rd_T32, List.getElem?_eq_getElem (show n < l.length by omega)]
    have e2 : (l.take (n + 1)).reverse = l[n] :: (l.take n).reverse := by rw [List.take_add_one, List.getElem?_eq_getElem (show n < l.length by omega)]; simp
    rw [e, e2, List.append_assoc]
    rfl
theorem spec_PolyBack_eq (k : Nat) (l : List Pt) (hl : l.length ≤ 1048576) (hk : l.length + 30 < k) : spec_PolyBack.f k l = some (if cvB l = true then (backL l, true) else ([], false)) := by
  unfold spec_PolyBack.f
  rw [l31Points_eq _ _ hl (by omega)]
  simp only [Option.bind_some]
  by_cases h : cvB l = true
  · have hv := cvB_iff.1 h
    rw [if_pos h, if_pos h, if_pos (by omega)]
    cases l with
    | nil => simp at hv
    | cons p l =>
      simp only [List.length_cons] at hv hk hl ⊢
      rw [pw64 (by omega) (by omega), show ((l.length + 1 : Nat) : Int) - 1 = (l.length : Int) by omega, Back_ok (by omega) l.length _ _ (by omega) (by omega) (by simp; omega), List.take_length]
      rfl
  · rw [if_neg h, if_neg h]
theorem impl_PolyBack_eq (k : Nat) (l : List Pt) (hk : l.length + 30 < k) : impl_PolyBack.f k l = some (if cvB l = true then (backL l, true) else ([], false)) := by
  unfold impl_PolyBack.f
  rw [cornersValid_eq _ _ (by omega)]
  simp only [Option.bind_some]
  by_cases h : cvB l = true
  · have hv := cvB_iff.1 h
    rw [if_pos h, if_pos h, if_pos (by omega), if_pos (by omega), if_pos (by omega), if_pos (by simp)]
    cases l with
    | nil => simp at hv
    | cons p l =>
      simp only [List.length_cons] at hv hk ⊢
      rw [Back_same, pw64 (by omega) (by omega), show ((l.length + 1 : Nat) : Int) - 1 = (l.length : Int) by omega, Back_ok (by omega) l.length _ _ (by omega) (by omega) (by simp; omega), List.take_length]
      rfl
  · rw [if_neg h, if_neg h]
end Go.Proofs.Ytgdhgncdpmalcaa.Pure
namespace Go.Proofs.Ytgdhgncdpmalcaa.Pure
open Go.RowKit Go.Proofs.Ytgdhgncdpmalcaa.Q Go.Proofs.Ytgdhgncdpmalcaa.Ring Go.Proofs.Ytgdhgncdpmalcaa.Geo Go.Proofs.YtgdhgncdpmalcaaW.PrintWords Go.Proofs.YtgdhgncdpmalcaaW.PrintLast
/-- Corner i of a list, gone round as often as it takes. -/
def PC (l : List Pt) (i : Nat) : Pt := at_ l (i % l.length)
theorem PC_at {l : List Pt} {i : Nat} (h : i < l.length) : PC l i = at_ l i := by unfold PC; rw [Nat.mod_eq_of_lt h]
theorem PC_per (l : List Pt) (i : Nat) : PC l (i + l.length) = PC l i := by unfold PC; rw [Nat.add_mod_right]
theorem PC_nxt {l : List Pt} {i : Nat} : nxt l i = PC l (i + 1) := rfl
def crI (p q : Pt) : Int := p.f0 * q.f1 - q.f0 * p.f1
def area2 (l : List Pt) : Int := sm 0 l.length (fun i => crI (PC l i) (PC l (i + 1)))
theorem at_mem {l : List Pt} {j : Nat} (hj : j < l.length) : at_ l j ∈ l := by unfold at_; rw [List.getD_eq_getElem?_getD, List.getElem?_eq_getElem hj]; exact List.getElem_mem hj
theorem cv_at {l : List Pt} (h : cvB l = true) (i : Nat) : (-10000 ≤ (PC l i).f0 ∧ (PC l i).f0 ≤ 10000) ∧ -10000 ≤ (PC l i).f1 ∧ (PC l i).f1 ≤ 10000 := by
  have hv := cvB_iff.1 h
  exact ptB_iff.1 (hv.2 _ (at_mem (Nat.mod_lt _ (by omega))))
theorem mulX {x y : Int} (hx : -10000 ≤ x ∧ x ≤ 10000) (hy : -10000 ≤ y ∧ y ≤ 10000) : -100000000 ≤ x * y ∧ x * y ≤ 100000000 := by
  have h1 : x.natAbs ≤ 10000 := by omega
  have h2 : y.natAbs ≤ 10000 := by omega
  have h3 : (x * y).natAbs ≤ 10000 * 10000 := by rw [Int.natAbs_mul]; exact Nat.mul_le_mul h1 h2
  omega
theorem crI_bd {p q : Pt} (hp : (-10000 ≤ p.f0 ∧ p.f0 ≤ 10000) ∧ -10000 ≤ p.f1 ∧ p.f1 ≤ 10000) (hq : (-10000 ≤ q.f0 ∧ q.f0 ≤ 10000) ∧ -10000 ≤ q.f1 ∧ q.f1 ≤ 10000) : -200000000 ≤ crI p q ∧ crI p q ≤ 200000000 := by
  have h1 := mulX hp.1 hq.2
  have h2 := mulX hq.1 hp.2
  unfold crI; omega
theorem crossP_eq {p q : Pt} (hp : (-10000 ≤ p.f0 ∧ p.f0 ≤ 10000) ∧ -10000 ≤ p.f1 ∧ p.f1 ≤ 10000) (hq : (-10000 ≤ q.f0 ∧ q.f0 ≤ 10000) ∧ -10000 ≤ q.f1 ∧ q.f1 ≤ 10000) : crossP p q = crI p q := by
  have h1 := mulX hp.1 hq.2
  have h2 := mulX hq.1 hp.2
  unfold crossP crI
  rw [pw64 (x := p.f0 * q.f1) (by omega) (by omega), pw64 (x := q.f0 * p.f1) (by omega) (by omega), pw64 (by omega) (by omega)]
theorem areaS_sm {l : List Pt} (h : cvB l = true) (j : Nat) (hj : j ≤ l.length) : areaS l j = sm 0 j (fun i => crI (PC l i) (PC l (i + 1))) := by
  have hv := cvB_iff.1 h
  induction j with
  | zero => rfl
  | succ j ih =>
    have e := ih (by omega)
    have b := sm_bd (lo := 0) (k := j) (f := fun i => crI (PC l i) (PC l (i + 1))) (B := 200000000) (fun i _ _ => crI_bd (cv_at h i) (cv_at h (i + 1)))
    have c := crI_bd (cv_at h j) (cv_at h (j + 1))
    rw [areaS, sm, e, PC_nxt, ← PC_at (show j < l.length by omega), crossP_eq (cv_at h j) (cv_at h (j + 1)), pw64 (by omega) (by omega), Nat.zero_add]
theorem areaS_eq {l : List Pt} (h : cvB l = true) : areaS l l.length = area2 l := areaS_sm h _ (Nat.le_refl _)
/-! lists begun elsewhere -/
def begL (l : List Pt) (k : Nat) : List Pt := l.drop k ++ l.take k
theorem begL_length {l : List Pt} {k : Nat} (hk : k ≤ l.length) : (begL l k).length = l.length := by unfold begL; rw [List.length_append, List.length_drop, List.length_take]; omega
theorem at_app (a b : List Pt) (i : Nat) : at_ (a ++ b) i = if i < a.length then at_ a i else at_ b (i - a.length) := by
  unfold at_
  simp only [List.getD_eq_getElem?_getD]
  by_cases h : i < a.length
  · rw [if_pos h, List.getElem?_append_left h]
  · rw [if_neg h, List.getElem?_append_right (by omega)]
theorem at_drop (l : List Pt) (k i : Nat) : at_ (l.drop k) i = at_ l (k + i) := by unfold at_; simp [List.getD_eq_getElem?_getD, List.getElem?_drop]
theorem at_take {l : List Pt} {k i : Nat} (h : i < k) : at_ (l.take k) i = at_ l i := by unfold at_; simp [List.getD_eq_getElem?_getD, h]
theorem at_beg {l : List Pt} {k r : Nat} (hk : k < l.length) (hr : r < l.length) : at_ (begL l k) r = at_ l ((r + k) % l.length) := by
  unfold begL
  rw [at_app, List.length_drop]
  by_cases h : r < l.length - k
  · rw [if_pos h, at_drop, Nat.mod_eq_of_lt (by omega), Nat.add_comm]
  · rw [if_neg h, at_take (by omega)]
    have e : (r + k) % l.length = r - (l.length - k) := by
      rw [show r + k = (r - (l.length - k)) + l.length by omega, Nat.add_mod_right, Nat.mod_eq_of_lt (by omega)]
    rw [e]
theorem PC_beg {l : List Pt} {k : Nat} (hk : k < l.length) (i : Nat) : PC (begL l k) i = PC l (i + k) := by
  unfold PC
  rw [begL_length (by omega), at_beg hk (Nat.mod_lt _ (by omega)), Nat.mod_add_mod]
theorem cv_beg {l : List Pt} {k : Nat} (hk : k ≤ l.length) : cvB (begL l k) = cvB l := by
  have e : ∀ p, p ∈ begL l k ↔ p ∈ l := fun p => by
    unfold begL
    rw [List.mem_append, Or.comm, ← List.mem_append, List.take_append_drop]
  unfold cvB
  rw [begL_length hk]
  congr 1
  rw [Bool.eq_iff_iff, List.all_eq_true, List.all_eq_true]
  exact ⟨fun h p hp => h p ((e p).2 hp), fun h p hp => h p ((e p).1 hp)⟩
theorem begunAt_eq {l : List Pt} {k : Nat} (hk : k ≤ l.length) (hl : l.length ≤ 100) : laws_begunAt.f l (k : Int) = some (begL l k) := by
  unfold laws_begunAt.f begL
  rw [Option.bind_some, if_pos (by omega), if_pos (by omega), Int.toNat_natCast]
  simp only [Option.bind_some, List.nil_append, List.length_nil]
  rw [if_pos (by simp; omega), if_pos (by simp; omega)]
/-! the opposite order -/
theorem PC_back {l : List Pt} {i : Nat} (hi : i ≤ l.length) : PC (backL l) i = PC l (l.length - i) := by
  cases l with
  | nil => simp [PC, backL, at_]
  | cons p l =>
    have hlen : (backL (p :: l)).length = (p :: l).length := by simp [backL]
    unfold PC
    rw [hlen]
    by_cases h0 : i = 0
    · subst h0
      simp [backL, at_]
    · by_cases h1 : i = (p :: l).length
      · subst h1
        simp [backL, at_]
      · have hi' : i < (p :: l).length := by omega
        rw [Nat.mod_eq_of_lt hi', Nat.mod_eq_of_lt (by omega)]
        obtain ⟨j, rfl⟩ : ∃ j, i = j + 1 := ⟨i - 1, by omega⟩
        simp only [List.length_cons] at hi' ⊢
        rw [show l.length + 1 - (j + 1) = (l.length - 1 - j) + 1 by omega]
        unfold at_ backL
        simp only [List.getD_eq_getElem?_getD, List.getElem?_cons_succ]
        rw [List.getElem?_reverse (by omega)]
theorem cv_back (l : List Pt) : cvB (backL l) = cvB l := by
  cases l with
  | nil => rfl
  | cons p l => unfold cvB backL; simp
/-! turned -/
def turnP (p : Pt) : Pt := ⟨-p.f1, p.f0⟩
theorem turned_l0 {l : List Pt} (hl : l.length ≤ 100) (hb : ∀ p ∈ l, -10000 ≤ p.f1 ∧ p.f1 ≤ 10000) (suf : List Pt) : ∀ (pre : List Pt) (k : Nat), suf.length < k → l = pre ++ suf → laws_turned.l0 k l (pre.map turnP) (pre.length : Int) = some (l.map turnP) := by
  induction suf with
  | nil =>
    intro pre k hk he
    obtain ⟨k, rfl⟩ : ∃ m, k = m + 1 := ⟨k - 1, by omega⟩
    rw [laws_turned.l0, if_neg (by rw [he]; simp)]
    rw [he]; simp
  | cons y suf ih =>
    intro pre k hk he
    obtain ⟨k, rfl⟩ : ∃ m, k = m + 1 := ⟨k - 1, by omega⟩
    simp only [List.length_cons] at hk
    have hlen : l.length = pre.length + suf.length + 1 := by rw [he]; simp; omega
    have hy := hb y (by rw [he]; simp)
    have er : rd_T32 l (pre.length : Int) = y := by rw [he]; exact rd_midP pre suf y
    rw [laws_turned.l0, if_pos (by omega), if_pos (by omega), if_pos (by simp; omega), er, pw64 (x := -y.f1) (by omega) (by omega), next_midP pre y (by omega)]
    have := ih (pre ++ [y]) k (by omega) (by rw [he]; simp)
    rw [List.map_append, List.map_singleton] at this
    exact this
theorem turned_eq {k : Nat} {l : List Pt} (h : cvB l = true) (hk : l.length < k) : laws_turned.f k l = some (l.map turnP) := by
  have hv := cvB_iff.1 h
  exact turned_l0 (by omega) (fun p hp => (ptB_iff.1 (hv.2 p hp)).2) l [] k hk rfl
theorem at_map {f : Pt → Pt} {l : List Pt} {i : Nat} (h : i < l.length) : at_ (l.map f) i = f (at_ l i) := by
  unfold at_
  simp only [List.getD_eq_getElem?_getD, List.getElem?_map, List.getElem?_eq_getElem h, Option.map_some, Option.getD_some]
theorem PC_map {f : Pt → Pt} {l : List Pt} (h0 : 0 < l.length) (i : Nat) : PC (l.map f) i = f (PC l i) := by
  unfold PC; rw [List.length_map, at_map (Nat.mod_lt _ h0)]
theorem cv_turn {l : List Pt} (h : cvB l = true) : cvB (l.map turnP) = true := by
  have hv := cvB_iff.1 h
  refine cvB_iff.2 ⟨by rw [List.length_map]; exact hv.1, fun p hp => ?_⟩
  obtain ⟨q, hq, rfl⟩ := List.mem_map.1 hp
  have := ptB_iff.1 (hv.2 q hq)
  exact ptB_iff.2 ⟨by unfold turnP; dsimp only; omega, by unfold turnP; dsimp only; omega⟩
/-! what PolyArea answers -/
def areaR (l : List Pt) : Int × Bool := if cvB l = true then (area2 l, true) else (0, false)
theorem implArea_eq (l : List Pt) : impl_PolyArea.f l = some (areaR l) := by
  unfold impl_PolyArea.f areaR
  by_cases h : cvB l = true
  · rw [if_pos h, if_pos h, areaS_eq h]
  · rw [if_neg h, if_neg h]
end Go.Proofs.Ytgdhgncdpmalcaa.Pure
namespace Go.Proofs.Ytgdhgncdpmalcaa.Pure
open Go.RowKit Go.Proofs.Ytgdhgncdpmalcaa.Q Go.Proofs.Ytgdhgncdpmalcaa.Ring Go.Proofs.Ytgdhgncdpmalcaa.Geo Go.Proofs.YtgdhgncdpmalcaaW.PrintWords Go.Proofs.YtgdhgncdpmalcaaW.PrintLast
def opp (x y : Int) : Prop := (0 < x ∧ y < 0) ∨ (x < 0 ∧ 0 < y)
/-- Two segments have a point in common. -/
def meetI (ax ay bx b_y cx cy dx dy : Int) : Prop := onP ax ay bx b_y cx cy ∨ onP ax ay bx b_y dx dy ∨ onP cx cy dx dy ax ay ∨ onP cx cy dx dy bx b_y ∨
  (opp (crs ax ay bx b_y cx cy) (crs ax ay bx b_y dx dy) ∧ opp (crs cx cy dx dy ax ay) (crs cx cy dx dy bx b_y))
structure SimpI (n : Nat) (X Y : Nat → Int) : Prop where
  n3 : 3 ≤ n
  px : ∀ i, X (i + n) = X i
  py : ∀ i, Y (i + n) = Y i
  dist : ∀ i j, i < n → j < n → X i = X j → Y i = Y j → i = j
  fold : ∀ i, ¬ onP (X i) (Y i) (X (i + 1)) (Y (i + 1)) (X (i + 2)) (Y (i + 2)) ∧ ¬ onP (X (i + 1)) (Y (i + 1)) (X (i + 2)) (Y (i + 2)) (X i) (Y i)
  meet : ∀ i j, i + 2 ≤ j → j + 2 ≤ i + n → ¬ meetI (X i) (Y i) (X (i + 1)) (Y (i + 1)) (X j) (Y j) (X (j + 1)) (Y (j + 1))
/-! the points of a list -/
def XX (l : List Pt) (i : Nat) : Int := (PC l i).f0
def YY (l : List Pt) (i : Nat) : Int := (PC l i).f1
theorem pvp {l : List Pt} (h : cvB l = true) (i : Nat) : PVP (PC l i) := by
  have := cv_at h i
  exact PV_iff.2 ⟨this.1.1, this.1.2, this.2.1, this.2.2⟩
theorem on_iff {p q r : Pt} (hp : PVP p) (hq : PVP q) (hr : PVP r) : onPt p q r = true ↔ onP p.f0 p.f1 q.f0 q.f1 r.f0 r.f1 := by
  unfold onPt onR
  rw [decide_eq_true_eq]
  exact ⟨fun h => h.2.2.2, fun h => ⟨hp, hq, hr, h⟩⟩
theorem on_no {p q r : Pt} (hp : PVP p) (hq : PVP q) (hr : PVP r) : onPt p q r = false ↔ ¬ onP p.f0 p.f1 q.f0 q.f1 r.f0 r.f1 := by
  rw [← on_iff hp hq hr, Bool.not_eq_true]
theorem sgn_eq {p q r : Pt} (hp : PVP p) (hq : PVP q) (hr : PVP r) : sgnP p q r = sgn (crs p.f0 p.f1 q.f0 q.f1 r.f0 r.f1) := by
  unfold sgnP; rw [sideR_yes hp hq hr]
theorem sgn_opp (x y : Int) : sgn x * sgn y < 0 ↔ opp x y := by
  unfold sgn opp
  split <;> split <;> (try split) <;> (try split) <;> first | omega | (simp; omega)
theorem meet_iff {a b c d : Pt} (ha : PVP a) (hb : PVP b) (hc : PVP c) (hd : PVP d) : meetPt a b c d = true ↔ meetI a.f0 a.f1 b.f0 b.f1 c.f0 c.f1 d.f0 d.f1 := by
  unfold meetPt meetI
  simp only [Bool.or_eq_true, Bool.and_eq_true, decide_eq_true_eq]
  rw [on_iff ha hb hc, on_iff ha hb hd, on_iff hc hd ha, on_iff hc hd hb, sgn_eq ha hb hc, sgn_eq ha hb hd, sgn_eq hc hd ha, sgn_eq hc hd hb, sgn_opp, sgn_opp]
  simp only [or_assoc]
theorem meet_no {a b c d : Pt} (ha : PVP a) (hb : PVP b) (hc : PVP c) (hd : PVP d) : meetPt a b c d = false ↔ ¬ meetI a.f0 a.f1 b.f0 b.f1 c.f0 c.f1 d.f0 d.f1 := by
  rw [← meet_iff ha hb hc hd, Bool.not_eq_true]
theorem PC_mod (l : List Pt) (i : Nat) : PC l (i % l.length) = PC l i := by unfold PC; rw [Nat.mod_mod]
theorem PC_mod1 (l : List Pt) (i d : Nat) : PC l (i % l.length + d) = PC l (i + d) := by unfold PC; rw [Nat.mod_add_mod]
theorem pt_eq {p q : Pt} (h0 : p.f0 = q.f0) (h1 : p.f1 = q.f1) : p = q := by
  obtain ⟨a, b⟩ := p; obtain ⟨c, d⟩ := q
  dsimp only at h0 h1; rw [h0, h1]
theorem same_no {p q : Pt} : sameP p q = false ↔ p ≠ q := by
  rw [← Bool.not_eq_true, sameP_iff]
  exact ⟨fun h e => h (by rw [e]; exact ⟨rfl, rfl⟩), fun h e => h (pt_eq e.1 e.2)⟩
theorem simp_iff {l : List Pt} (h : cvB l = true) : simpleB l = true ↔ SimpI l.length (XX l) (YY l) := by
  have hv := cvB_iff.1 h
  have pv := pvp h
  have at0 : ∀ i, i < l.length → at_ l i = PC l i := fun i hi => (PC_at hi).symm
  have atm : ∀ i, at_ l (i % l.length) = PC l i := fun i => rfl
  have nx : ∀ i, nxt l i = PC l (i + 1) := fun i => rfl
  have nxm : ∀ i d, nxt l ((i + d) % l.length) = PC l (i + d + 1) := fun i d => by rw [nx, PC_mod1]
  rw [simple_iff]
  constructor
  · rintro ⟨h1, h2⟩
    refine ⟨by omega, fun i => by unfold XX; rw [PC_per], fun i => by unfold YY; rw [PC_per], ?_, fun i => ?_, fun i j hi hj => ?_⟩
    · have key : ∀ i j, i < l.length → j < l.length → i < j → PC l i = PC l j → False := by
        intro i j hi hj hij e
        have := h1 i hi (j - i - 1) (by omega)
        unfold dupAt at this
        rw [show i + 1 + (j - i - 1) = j by omega, atm, at0 i hi, same_no] at this
        exact this e.symm
      intro i j hi hj e0 e1
      have e : PC l i = PC l j := pt_eq e0 e1
      rcases Nat.lt_trichotomy i j with q | q | q
      · exact (key i j hi hj q e).elim
      · exact q
      · exact (key j i hj hi q e.symm).elim
    · have := (h2 (i % l.length) (Nat.mod_lt _ (by omega))).1
      unfold foldAt at this
      rw [Bool.or_eq_false_iff, atm, nx, nxm, PC_mod1] at this
      rw [show i % l.length + 1 + 1 = i % l.length + 2 from rfl, PC_mod1] at this
      exact ⟨(on_no (pv _) (pv _) (pv _)).1 this.1, (on_no (pv _) (pv _) (pv _)).1 this.2⟩
    · have := (h2 (i % l.length) (Nat.mod_lt _ (by omega))).2 (j - i - 2) (by omega)
      unfold meetAt at this
      rw [atm, nx, PC_mod1, nxm, atm] at this
      rw [show i % l.length + 2 + (j - i - 2) + 1 = i % l.length + (j - i + 1) by omega, show i % l.length + 2 + (j - i - 2) = i % l.length + (j - i) by omega, PC_mod1, PC_mod1,
        show i + (j - i + 1) = j + 1 by omega, show i + (j - i) = j by omega] at this
      exact (meet_no (pv _) (pv _) (pv _) (pv _)).1 this
  · intro H
    refine ⟨fun i hi t ht => ?_, fun i hi => ⟨?_, fun t ht => ?_⟩⟩
    · unfold dupAt
      rw [atm, at0 i hi, same_no]
      intro e
      have hm := Nat.mod_lt (i + 1 + t) (show 0 < l.length by omega)
      rw [← PC_mod] at e
      have := H.dist _ _ hm hi (by unfold XX; rw [e]) (by unfold YY; rw [e])
      by_cases c : i + 1 + t < l.length
      · rw [Nat.mod_eq_of_lt c] at this; omega
      · rw [show i + 1 + t = (i + 1 + t - l.length) + l.length by omega, Nat.add_mod_right, Nat.mod_eq_of_lt (by omega)] at this
        omega
    · unfold foldAt
      rw [at0 i hi, nx, nxm, Bool.or_eq_false_iff]
      have := H.fold i
      exact ⟨(on_no (pv _) (pv _) (pv _)).2 this.1, (on_no (pv _) (pv _) (pv _)).2 this.2⟩
    · unfold meetAt
      rw [at0 i hi, nx, nxm, atm]
      exact (meet_no (pv _) (pv _) (pv _) (pv _)).2 (H.meet i (i + 2 + t) (by omega) (by omega))
theorem okS_iff {l : List Pt} : okS l = true ↔ cvB l = true ∧ SimpI l.length (XX l) (YY l) := by
  unfold okS
  rw [Bool.and_eq_true]
  exact ⟨fun h => ⟨h.1, (simp_iff h.1).1 h.2⟩, fun h => ⟨h.1, (simp_iff h.1).2 h.2⟩⟩
/-! another beginning, the other way round, a shift, a turn -/
theorem modp {n : Nat} {X : Nat → Int} (px : ∀ i, X (i + n) = X i) (i : Nat) : X (i % n) = X i := by
  have : ∀ k, X (i % n + n * k) = X (i % n) := by
    intro k
    induction k with
    | zero => rfl
    | succ k ih => rw [Nat.mul_succ, ← Nat.add_assoc, px, ih]
  have e := this (i / n)
  rw [Nat.mod_add_div] at e
  exact e.symm
theorem SimpI.shift {n : Nat} {X Y : Nat → Int} (h : SimpI n X Y) (k : Nat) : SimpI n (fun i => X (i + k)) (fun i => Y (i + k)) := by
  have n3 := h.n3
  refine ⟨h.n3, fun i => by rw [show i + n + k = i + k + n by omega, h.px], fun i => by rw [show i + n + k = i + k + n by omega, h.py], fun i j hi hj e0 e1 => ?_, fun i => ?_, fun i j hi hj => ?_⟩
  · rw [← modp h.px (i + k), ← modp h.px (j + k)] at e0
    rw [← modp h.py (i + k), ← modp h.py (j + k)] at e1
    have := h.dist _ _ (Nat.mod_lt _ (by omega)) (Nat.mod_lt _ (by omega)) e0 e1
    have a := Nat.div_add_mod (i + k) n
    have b := Nat.div_add_mod (j + k) n
    rw [this] at a
    rcases Nat.lt_trichotomy i j with q | q | q
    · exfalso
      rcases Nat.lt_or_ge ((i + k) / n) ((j + k) / n) with c | c
      · have : n * ((i + k) / n + 1) ≤ n * ((j + k) / n) := Nat.mul_le_mul_left _ c
        rw [Nat.mul_succ] at this; omega
      · have : n * ((j + k) / n) ≤ n * ((i + k) / n) := Nat.mul_le_mul_left _ c
        omega
    · exact q
    · exfalso
      rcases Nat.lt_or_ge ((j + k) / n) ((i + k) / n) with c | c
      · have : n * ((j + k) / n + 1) ≤ n * ((i + k) / n) := Nat.mul_le_mul_left _ c
        rw [Nat.mul_succ] at this; omega
      · have : n * ((i + k) / n) ≤ n * ((j + k) / n) := Nat.mul_le_mul_left _ c
        omega
  · have := h.fold (i + k)
    rw [show i + k + 1 = i + 1 + k by omega, show i + k + 2 = i + 2 + k by omega] at this
    exact this
  · have := h.meet (i + k) (j + k) (by omega) (by omega)
    rw [show i + k + 1 = i + 1 + k by omega, show j + k + 1 = j + 1 + k by omega] at this
    exact this
theorem crs_swap (a b c d e f : Int) : crs c d a b e f = -(crs a b c d e f) := by unfold crs; grind
theorem onP_sym {a b c d e f : Int} : onP c d a b e f ↔ onP a b c d e f := by
  unfold onP
  rw [crs_swap]
  constructor <;> intro h <;> omega
theorem opp_neg {x y : Int} : opp (-x) (-y) ↔ opp x y := by unfold opp; omega
theorem opp_sym {x y : Int} : opp y x ↔ opp x y := by unfold opp; omega
theorem meetI_rev {a b c d e f g h : Int} : meetI g h e f c d a b ↔ meetI a b c d e f g h := by
  unfold meetI
  rw [onP_sym (a := e) (b := f) (c := g) (d := h), onP_sym (a := e) (b := f) (c := g) (d := h), onP_sym (a := a) (b := b) (c := c) (d := d), onP_sym (a := a) (b := b) (c := c) (d := d)]
  rw [crs_swap e f g h, crs_swap e f g h, crs_swap a b c d, crs_swap a b c d, opp_neg, opp_neg, opp_sym (x := crs e f g h a b), opp_sym (x := crs a b c d e f)]
  constructor
  · rintro (h | h | h | h | h)
    · exact .inr (.inr (.inr (.inl h)))
    · exact .inr (.inr (.inl h))
    · exact .inr (.inl h)
    · exact .inl h
    · exact .inr (.inr (.inr (.inr ⟨h.2, h.1⟩)))
  · rintro (h | h | h | h | h)
    · exact .inr (.inr (.inr (.inl h)))
    · exact .inr (.inr (.inl h))
    · exact .inr (.inl h)
    · exact .inl h
    · exact .inr (.inr (.inr (.inr ⟨h.2, h.1⟩)))
theorem revP {n : Nat} {X : Nat → Int} (px : ∀ i, X (i + n) = X i) {e : Nat} (he : e ≤ 2 * n) : X (n - e % n) = X (2 * n - e) := by
  by_cases h : e < n
  · rw [Nat.mod_eq_of_lt h, ← px (n - e)]; congr 1; omega
  · by_cases h2 : e < 2 * n
    · rw [show e = (e - n) + n by omega, Nat.add_mod_right, Nat.mod_eq_of_lt (by omega)]; congr 1; omega
    · obtain rfl : e = 2 * n := by omega
      rw [Nat.mul_mod_left, Nat.sub_zero, Nat.sub_self, show n = 0 + n by omega, px]
theorem SimpI.rev {n : Nat} {X Y : Nat → Int} (h : SimpI n X Y) : SimpI n (fun i => X (n - i % n)) (fun i => Y (n - i % n)) := by
  have n3 := h.n3
  have rx : ∀ i d, d ≤ n → X (n - (i + d) % n) = X (2 * n - (i % n + d)) := fun i d hd => by
    have := Nat.mod_lt i (show 0 < n by omega)
    rw [← revP h.px (by omega), Nat.mod_add_mod]
  have ry : ∀ i d, d ≤ n → Y (n - (i + d) % n) = Y (2 * n - (i % n + d)) := fun i d hd => by
    have := Nat.mod_lt i (show 0 < n by omega)
    rw [← revP h.py (by omega), Nat.mod_add_mod]
  refine ⟨h.n3, fun i => by rw [Nat.add_mod_right], fun i => by rw [Nat.add_mod_right], fun i j hi hj e0 e1 => ?_, fun i => ?_, fun i j hi hj => ?_⟩
  · rw [Nat.mod_eq_of_lt hi, Nat.mod_eq_of_lt hj, ← modp h.px, ← modp h.px (n - j)] at e0
    rw [Nat.mod_eq_of_lt hi, Nat.mod_eq_of_lt hj, ← modp h.py, ← modp h.py (n - j)] at e1
    have := h.dist _ _ (Nat.mod_lt _ (by omega)) (Nat.mod_lt _ (by omega)) e0 e1
    by_cases ci : i = 0
    · by_cases cj : j = 0
      · omega
      · subst ci; rw [Nat.sub_zero, Nat.mod_self, Nat.mod_eq_of_lt (by omega)] at this; omega
    · by_cases cj : j = 0
      · subst cj; rw [Nat.sub_zero, Nat.mod_self, Nat.mod_eq_of_lt (by omega)] at this; omega
      · rw [Nat.mod_eq_of_lt (by omega), Nat.mod_eq_of_lt (by omega)] at this; omega
  · have hr := Nat.mod_lt i (show 0 < n by omega)
    have e0 := rx i 0 (by omega); have f0 := ry i 0 (by omega)
    rw [Nat.add_zero, Nat.add_zero] at e0 f0
    rw [e0, f0, rx i 1 (by omega), ry i 1 (by omega), rx i 2 (by omega), ry i 2 (by omega)]
    have := h.fold (2 * n - (i % n + 2))
    rw [show 2 * n - (i % n + 2) + 1 = 2 * n - (i % n + 1) by omega, show 2 * n - (i % n + 2) + 2 = 2 * n - i % n by omega] at this
    exact ⟨fun c => this.2 (onP_sym.1 c), fun c => this.1 (onP_sym.1 c)⟩
  · have hr := Nat.mod_lt i (show 0 < n by omega)
    obtain ⟨d, rfl⟩ : ∃ d, j = i + d := ⟨j - i, by omega⟩
    have e0 := rx i 0 (by omega); have f0 := ry i 0 (by omega)
    rw [Nat.add_zero, Nat.add_zero] at e0 f0
    rw [e0, f0, rx i 1 (by omega), ry i 1 (by omega), rx i d (by omega), ry i d (by omega), show i + d + 1 = i + (d + 1) from rfl, rx i (d + 1) (by omega), ry i (d + 1) (by omega)]
    have := h.meet (2 * n - (i % n + (d + 1))) (2 * n - (i % n + 1)) (by omega) (by omega)
    rw [show 2 * n - (i % n + (d + 1)) + 1 = 2 * n - (i % n + d) by omega, show 2 * n - (i % n + 1) + 1 = 2 * n - i % n by omega] at this
    exact fun c => this (meetI_rev.2 c)
theorem SimpI.congr {n : Nat} {X Y X' Y' : Nat → Int} (h : SimpI n X Y) (hx : ∀ i, X' i = X i) (hy : ∀ i, Y' i = Y i) : SimpI n X' Y' := by
  have e1 : X' = X := funext hx
  have e2 : Y' = Y := funext hy
  rw [e1, e2]; exact h
theorem okS_beg {l : List Pt} (h : okS l = true) {k : Nat} (hk : k < l.length) : okS (begL l k) = true := by
  obtain ⟨hc, hs⟩ := okS_iff.1 h
  refine okS_iff.2 ⟨by rw [cv_beg (by omega)]; exact hc, ?_⟩
  rw [begL_length (by omega)]
  exact (hs.shift k).congr (fun i => by unfold XX; rw [PC_beg hk]) (fun i => by unfold YY; rw [PC_beg hk])
theorem backL_len (l : List Pt) : (backL l).length = l.length := by cases l <;> simp [backL]
theorem PC_backm {l : List Pt} (h0 : 0 < l.length) (i : Nat) : PC (backL l) i = PC l (l.length - i % l.length) := by
  have := PC_back (l := l) (i := i % l.length) (Nat.le_of_lt (Nat.mod_lt _ h0))
  rw [← this, ← backL_len l, PC_mod]
theorem okS_back {l : List Pt} (h : okS l = true) : okS (backL l) = true := by
  obtain ⟨hc, hs⟩ := okS_iff.1 h
  have hv := cvB_iff.1 hc
  refine okS_iff.2 ⟨by rw [cv_back]; exact hc, ?_⟩
  rw [backL_len]
  exact hs.rev.congr (fun i => by unfold XX; rw [PC_backm (by omega)]) (fun i => by unfold YY; rw [PC_backm (by omega)])
/-- A map of points that keeps what lies where. -/
structure Rigid (f : Int → Int → Int × Int) : Prop where
  inj : ∀ a b c d, f a b = f c d → a = c ∧ b = d
  crs : ∀ a b c d e g, crs (f a b).1 (f a b).2 (f c d).1 (f c d).2 (f e g).1 (f e g).2 = crs a b c d e g
  on : ∀ a b c d e g, onP (f a b).1 (f a b).2 (f c d).1 (f c d).2 (f e g).1 (f e g).2 ↔ onP a b c d e g
theorem SimpI.map {n : Nat} {X Y : Nat → Int} (h : SimpI n X Y) {f : Int → Int → Int × Int} (hf : Rigid f) : SimpI n (fun i => (f (X i) (Y i)).1) (fun i => (f (X i) (Y i)).2) := by
  refine ⟨h.n3, fun i => by rw [h.px, h.py], fun i => by rw [h.px, h.py], fun i j hi hj e0 e1 => ?_, fun i => ?_, fun i j hi hj => ?_⟩
  · have := hf.inj _ _ _ _ (Prod.ext e0 e1)
    exact h.dist i j hi hj this.1 this.2
  · rw [hf.on, hf.on]; exact h.fold i
  · have := h.meet i j hi hj
    unfold meetI at this ⊢
    rw [hf.on, hf.on, hf.on, hf.on, hf.crs, hf.crs, hf.crs, hf.crs]
    exact this
theorem rigid_turn : Rigid (fun x y => (-y, x)) := by
  have e : ∀ a b c d e g : Int, Pure.crs (-b) a (-d) c (-g) e = Pure.crs a b c d e g := by
    intro a b c d e g; unfold Pure.crs; grind
  refine ⟨fun a b c d h => by injection h with h1 h2; omega, e, fun a b c d e' g => ?_⟩
  dsimp only
  unfold onP
  rw [e]
  constructor <;> intro h <;> omega
end Go.Proofs.Ytgdhgncdpmalcaa.Pure
namespace Go.Proofs.Ytgdhgncdpmalcaa.Geo
set_option linter.unusedVariables false

theorem pos_of_mul {a b : Int} (h : 0 < a * b) (hb : 0 ≤ b) : 0 < a := by
  apply Classical.byContradiction; intro k
  have := Int.mul_nonneg (show 0 ≤ -a by omega) hb
  rw [Int.neg_mul] at this; omega
theorem pos_of_mul' {a b : Int} (h : 0 < a * b) (ha : 0 ≤ a) : 0 < b := by
  rw [Int.mul_comm] at h; exact pos_of_mul h ha

def low (x y : Int) : Prop := y < 0 ∨ (y = 0 ∧ 0 < x)
instance (x y : Int) : Decidable (low x y) := by unfold low; exact inferInstance
def L (x y : Int) : Int := if low x y then 1 else 0
def cro (a b c d : Int) : Int := a * d - b * c
/-- The crossing of the step from one direction to another one over the ray to the east. -/
def cr (a b c d : Int) : Int :=
  if low a b then (if low c d then 0 else if 0 < cro a b c d then 1 else 0)
  else (if low c d then (if cro a b c d < 0 then -1 else 0) else 0)

theorem cro_swap (a b c d : Int) : cro c d a b = - cro a b c d := by unfold cro; rw [Int.mul_comm c b, Int.mul_comm d a]; omega
theorem cr_swap (a b c d : Int) : cr c d a b = - cr a b c d := by
  unfold cr; rw [cro_swap a b c d]
  repeat' split
  all_goals omega

/-- Two directions in one open half plane. -/
theorem cr_half {gx gy a b c d : Int} (h1 : 0 < gx * a + gy * b) (h2 : 0 < gx * c + gy * d) :
    cr a b c d = (if 0 < gx then L a b - L c d else 0) := by
  have key : gx * cro a b c d = (gx * a + gy * b) * d - (gx * c + gy * d) * b := by unfold cro; grind
  have aux : ∀ {p q r s : Int}, low p q → ¬ low r s → 0 < gx * p + gy * q → 0 < gx * r + gy * s →
      0 < (gx * p + gy * q) * s - (gx * r + gy * s) * q := by
    intro p q r s hl hn k1 k2
    unfold low at hl hn
    have hq : q ≤ 0 := by omega
    have hs : 0 ≤ s := by omega
    have e1 := Int.mul_nonneg (Int.le_of_lt k1) hs
    have e2 := Int.mul_nonneg (Int.le_of_lt k2) (show 0 ≤ -q by omega)
    rw [Int.mul_neg] at e2
    by_cases z : q = 0 ∧ s = 0
    · obtain ⟨rfl, rfl⟩ := z
      have hp : 0 < p := by omega
      have hr : r ≤ 0 := by omega
      simp at k1 k2
      have hg : 0 < gx := pos_of_mul k1 (Int.le_of_lt hp)
      have := Int.mul_nonneg (Int.le_of_lt hg) (show 0 ≤ -r by omega)
      rw [Int.mul_neg] at this; omega
    · rcases Classical.em (q = 0) with hq0 | hq0
      · have : 0 < s := by omega
        have := Int.mul_pos k1 this
        omega
      · have : 0 < -q := by omega
        have := Int.mul_pos k2 this
        rw [Int.mul_neg] at this; omega
  unfold cr L
  by_cases ha : low a b <;> by_cases hc : low c d
  · simp [ha, hc]
  · have k := aux ha hc h1 h2
    rw [← key] at k
    simp only [ha, hc, if_true, if_false]
    by_cases hg : 0 < gx
    · have : 0 < cro a b c d := pos_of_mul' k (Int.le_of_lt hg)
      simp [hg, this]
    · have : ¬ 0 < cro a b c d := fun h => by
        have := Int.mul_nonneg (show 0 ≤ -gx by omega) (Int.le_of_lt h)
        rw [Int.neg_mul] at this; omega
      simp [hg, this]
  · have k := aux hc ha h2 h1
    have key2 : gx * cro a b c d = - ((gx * c + gy * d) * b - (gx * a + gy * b) * d) := by rw [key]; omega
    simp only [ha, hc, if_true, if_false]
    by_cases hg : 0 < gx
    · have : cro a b c d < 0 := by
        apply Classical.byContradiction; intro h
        have := Int.mul_nonneg (Int.le_of_lt hg) (show 0 ≤ cro a b c d by omega)
        omega
      simp [hg, this]
    · have : ¬ cro a b c d < 0 := fun h => by
        have := Int.mul_nonneg (show 0 ≤ -gx by omega) (show 0 ≤ - cro a b c d by omega)
        rw [Int.neg_mul, Int.mul_neg] at this; omega
      simp [hg, this]
  · simp [ha, hc]

/-- Disjoint: a line lies between two segments, seen as one functional that is positive on all four secants. -/
def Sep (ax ay bx b_y cx cy dx dy : Int) : Prop := ∃ gx gy : Int, 0 < gx * (cx - ax) + gy * (cy - ay) ∧ 0 < gx * (dx - ax) + gy * (dy - ay) ∧ 0 < gx * (cx - bx) + gy * (cy - b_y) ∧ 0 < gx * (dx - bx) + gy * (dy - b_y)

/-- The cell: seen from the ends of one of two disjoint segments, the ends of the other one. -/
theorem cell {ax ay bx b_y cx cy dx dy : Int} (h : Sep ax ay bx b_y cx cy dx dy) :
    cr (cx - ax) (cy - ay) (dx - ax) (dy - ay) + cr (dx - ax) (dy - ay) (dx - bx) (dy - b_y) =
    cr (cx - bx) (cy - b_y) (dx - bx) (dy - b_y) + cr (cx - ax) (cy - ay) (cx - bx) (cy - b_y) := by
  obtain ⟨gx, gy, h1, h2, h3, h4⟩ := h
  rw [cr_half h1 h2, cr_half h2 h4, cr_half h3 h4, cr_half h1 h3]
  split <;> omega

/-- Not antiparallel, and none is 0: one functional is positive on both. -/
def Fwd (a b c d : Int) : Prop := ∃ gx gy : Int, 0 < gx * a + gy * b ∧ 0 < gx * c + gy * d

theorem tri {a b c d : Int} (h : Fwd a b c d) : cr a b (a + c) (b + d) + cr (a + c) (b + d) c d = cr a b c d := by
  obtain ⟨gx, gy, h1, h2⟩ := h
  have h3 : 0 < gx * (a + c) + gy * (b + d) := by rw [Int.mul_add, Int.mul_add]; omega
  rw [cr_half h1 h3, cr_half h3 h2, cr_half h1 h2]
  split <;> omega

theorem low_neg {a b : Int} (h : ¬ (a = 0 ∧ b = 0)) : low (-a) (-b) ↔ ¬ low a b := by unfold low; omega
theorem cr_neg {a b c d : Int} (h : Fwd a b c d) : cr a b c d = cr (-a) (-b) (-c) (-d) + L a b - L c d := by
  obtain ⟨gx, gy, h1, h2⟩ := h
  have h1' : 0 < (-gx) * (-a) + (-gy) * (-b) := by rw [Int.neg_mul_neg, Int.neg_mul_neg]; exact h1
  have h2' : 0 < (-gx) * (-c) + (-gy) * (-d) := by rw [Int.neg_mul_neg, Int.neg_mul_neg]; exact h2
  have ha : ¬ (a = 0 ∧ b = 0) := fun ⟨x, y⟩ => by subst x; subst y; simp at h1
  have hc : ¬ (c = 0 ∧ d = 0) := fun ⟨x, y⟩ => by subst x; subst y; simp at h2
  rw [cr_half h1 h2, cr_half h1' h2']
  have la : L (-a) (-b) = 1 - L a b := by unfold L; simp only [low_neg ha]; split <;> simp_all
  have lc : L (-c) (-d) = 1 - L c d := by unfold L; simp only [low_neg hc]; split <;> simp_all
  rw [la, lc]
  rcases Classical.em (gx = 0) with hg | hg
  · subst hg
    simp at h1 h2
    have : L a b = L c d := by
      have lw : (low a b ↔ low c d) → L a b = L c d := fun e => by unfold L; simp only [e]
      refine lw ?_
      unfold low
      rcases Int.lt_trichotomy gy 0 with g | g | g
      · have hb : b < 0 := by
          apply Classical.byContradiction; intro h
          have := Int.mul_nonneg (show 0 ≤ -gy by omega) (show 0 ≤ b by omega)
          rw [Int.neg_mul] at this; omega
        have hd : d < 0 := by
          apply Classical.byContradiction; intro h
          have := Int.mul_nonneg (show 0 ≤ -gy by omega) (show 0 ≤ d by omega)
          rw [Int.neg_mul] at this; omega
        simp [hb, hd]
      · subst g; simp at h1
      · have hb : 0 < b := by
          apply Classical.byContradiction; intro h
          have := Int.mul_nonneg (show 0 ≤ gy by omega) (show 0 ≤ -b by omega)
          rw [Int.mul_neg] at this; omega
        have hd : 0 < d := by
          apply Classical.byContradiction; intro h
          have := Int.mul_nonneg (show 0 ≤ gy by omega) (show 0 ≤ -d by omega)
          rw [Int.mul_neg] at this; omega
        omega
    simp; omega
  · by_cases g : 0 < gx
    · rw [if_pos g, if_neg (by omega)]; omega
    · rw [if_neg g, if_pos (by omega)]; omega

/-! ### Simple polygons -/
/-- A closed polygon: corners X i, Y i with the period n. Sides that are no neighbours are apart; no corner folds back. -/
structure Simple (n : Nat) (X Y : Nat → Int) : Prop where
  n3 : 3 ≤ n
  px : ∀ i, X (i + n) = X i
  py : ∀ i, Y (i + n) = Y i
  sep : ∀ i j, i + 2 ≤ j → j + 2 ≤ i + n → Sep (X i) (Y i) (X (i + 1)) (Y (i + 1)) (X j) (Y j) (X (j + 1)) (Y (j + 1))
  fwd : ∀ i, Fwd (X (i + 1) - X i) (Y (i + 1) - Y i) (X (i + 2) - X (i + 1)) (Y (i + 2) - Y (i + 1))

/-- The crossing of side j, seen from a point. -/
def side (X Y : Nat → Int) (x y : Int) (j : Nat) : Int := cr (X j - x) (Y j - y) (X (j + 1) - x) (Y (j + 1) - y)
/-- Seen from the corner i: all sides that do not touch it. -/
def open_ (n : Nat) (X Y : Nat → Int) (i : Nat) : Int := sm (i + 1) (n - 2) (side X Y (X i) (Y i))

theorem Fwd.neg {a b c d : Int} (h : Fwd a b c d) : Fwd (-a) (-b) (-c) (-d) := by
  obtain ⟨gx, gy, h1, h2⟩ := h
  exact ⟨-gx, -gy, by rw [Int.neg_mul_neg, Int.neg_mul_neg]; exact h1, by rw [Int.neg_mul_neg, Int.neg_mul_neg]; exact h2⟩
theorem tri' {a b c d s t : Int} (h : Fwd a b c d) (hs : s = a + c) (ht : t = b + d) : cr a b s t + cr s t c d = cr a b c d := by subst hs; subst ht; exact tri h
theorem trin {a b c d s t : Int} (h : Fwd a b c d) (hs : s = -a - c) (ht : t = -b - d) : cr (-a) (-b) s t + cr s t (-c) (-d) = cr (-a) (-b) (-c) (-d) :=
  tri' h.neg (by omega) (by omega)

theorem open_step {n : Nat} {X Y : Nat → Int} (h : Simple n X Y) (i : Nat) :
    open_ n X Y (i + 2) + cr (X (i + 2) - X (i + 1)) (Y (i + 2) - Y (i + 1)) (X (i + 3) - X (i + 2)) (Y (i + 3) - Y (i + 2)) =
    open_ n X Y (i + 1) + cr (-(X (i + 1) - X i)) (-(Y (i + 1) - Y i)) (-(X (i + 2) - X (i + 1))) (-(Y (i + 2) - Y (i + 1))) := by
  obtain ⟨m, rfl⟩ : ∃ m, n = m + 3 := ⟨n - 3, by have := h.n3; omega⟩
  have e1 : open_ (m + 3) X Y (i + 1) = side X Y (X (i + 1)) (Y (i + 1)) (i + 2) + sm (i + 3) m (side X Y (X (i + 1)) (Y (i + 1))) := sm_first (i + 2) m _
  have e2 : open_ (m + 3) X Y (i + 2) = sm (i + 3) m (side X Y (X (i + 2)) (Y (i + 2))) + side X Y (X (i + 2)) (Y (i + 2)) (i + 3 + m) := rfl
  have c := sm_cells (lo := i + 3) (k := m) (f := side X Y (X (i + 1)) (Y (i + 1))) (g := side X Y (X (i + 2)) (Y (i + 2)))
    (h := fun j => cr (X j - X (i + 1)) (Y j - Y (i + 1)) (X j - X (i + 2)) (Y j - Y (i + 2))) (fun j a b => cell (h.sep (i + 1) j (by omega) (by omega)))
  have p1 : X (i + 3 + m) = X i := by rw [show i + 3 + m = i + (m + 3) from by omega]; exact h.px i
  have p2 : Y (i + 3 + m) = Y i := by rw [show i + 3 + m = i + (m + 3) from by omega]; exact h.py i
  have p3 : X (i + 3 + m + 1) = X (i + 1) := by rw [show i + 3 + m + 1 = i + 1 + (m + 3) from by omega]; exact h.px _
  have p4 : Y (i + 3 + m + 1) = Y (i + 1) := by rw [show i + 3 + m + 1 = i + 1 + (m + 3) from by omega]; exact h.py _
  have t1 := trin (h.fwd i) (s := X i - X (i + 2)) (t := Y i - Y (i + 2)) (by omega) (by omega)
  have t2 := tri' (h.fwd (i + 1)) (s := X (i + 3) - X (i + 1)) (t := Y (i + 3) - Y (i + 1)) (by simp only [Nat.add_assoc, Nat.reduceAdd]; omega) (by simp only [Nat.add_assoc, Nat.reduceAdd]; omega)
  unfold side at e1 e2
  simp only [p1, p2, p3, p4] at e2 c
  simp only [Nat.add_assoc, Nat.reduceAdd] at e1 e2 c t1 t2
  rw [show -(X (i + 1) - X i) = X i - X (i + 1) from by omega, show -(Y (i + 1) - Y i) = Y i - Y (i + 1) from by omega, show -(X (i + 2) - X (i + 1)) = X (i + 1) - X (i + 2) from by omega, show -(Y (i + 2) - Y (i + 1)) = Y (i + 1) - Y (i + 2) from by omega] at t1 ⊢
  unfold side at c
  omega

/-- How often the polygon goes round what lies just to the left of side i + 1. -/
def wl (n : Nat) (X Y : Nat → Int) (i : Nat) : Int :=
  open_ n X Y (i + 1) + cr (-(X (i + 1) - X i)) (-(Y (i + 1) - Y i)) (-(X (i + 2) - X (i + 1))) (-(Y (i + 2) - Y (i + 1))) + 1 - L (X (i + 2) - X (i + 1)) (Y (i + 2) - Y (i + 1))

theorem wl_step {n : Nat} {X Y : Nat → Int} (h : Simple n X Y) (i : Nat) : wl n X Y (i + 1) = wl n X Y i := by
  have a := open_step h i
  have b := cr_neg (h.fwd (i + 1))
  unfold wl
  simp only [Nat.add_assoc, Nat.reduceAdd] at b ⊢
  omega
theorem wl_all {n : Nat} {X Y : Nat → Int} (h : Simple n X Y) (i : Nat) : wl n X Y i = wl n X Y 0 := by
  induction i with
  | zero => rfl
  | succ i ih => rw [wl_step h, ih]

/-- A corner from which no other one is low. -/
theorem lowest (X Y : Nat → Int) (k : Nat) : ∃ m, m ≤ k ∧ ∀ j, j ≤ k → ¬ low (X j - X m) (Y j - Y m) := by
  induction k with
  | zero => exact ⟨0, Nat.le_refl _, fun j hj => by obtain rfl : j = 0 := by omega
                                                    unfold low; omega⟩
  | succ k ih =>
    obtain ⟨m, hm, hl⟩ := ih
    by_cases c : low (X (k + 1) - X m) (Y (k + 1) - Y m)
    · refine ⟨k + 1, Nat.le_refl _, fun j hj => ?_⟩
      by_cases e : j = k + 1
      · subst e; unfold low; omega
      · have := hl j (by omega)
        unfold low at *; omega
    · refine ⟨m, by omega, fun j hj => ?_⟩
      by_cases e : j = k + 1
      · subst e; exact c
      · exact hl j (by omega)

theorem mod_eq {n : Nat} {X : Nat → Int} (px : ∀ i, X (i + n) = X i) (i k : Nat) : X (i + k * n) = X i := by
  induction k with
  | zero => simp
  | succ k ih => rw [Nat.succ_mul, ← Nat.add_assoc, px, ih]
theorem mod_eq' {n : Nat} {X : Nat → Int} (px : ∀ i, X (i + n) = X i) (i : Nat) : X i = X (i % n) := by
  have := mod_eq px (i % n) (i / n)
  rw [Nat.mul_comm, Nat.mod_add_div] at this
  exact this

theorem Simple.edge {n : Nat} {X Y : Nat → Int} (h : Simple n X Y) (i : Nat) : ¬ (X (i + 1) - X i = 0 ∧ Y (i + 1) - Y i = 0) := fun ⟨a, b⟩ => by
  obtain ⟨gx, gy, h1, _⟩ := h.fwd i
  rw [a, b] at h1; simp at h1

/-- The number is 1 or 0. -/
theorem wl_01 {n : Nat} {X Y : Nat → Int} (h : Simple n X Y) : wl n X Y 0 = 1 ∨ wl n X Y 0 = 0 := by
  have n3 := h.n3
  obtain ⟨m, hm, hl⟩ := lowest X Y (n - 1)
  have all : ∀ j, ¬ low (X j - X m) (Y j - Y m) := fun j => by
    rw [mod_eq' h.px j, mod_eq' h.py j]
    exact hl _ (by have := Nat.mod_lt j (show 0 < n by omega); omega)
  obtain ⟨i, hi⟩ : ∃ i, X (i + 1) = X m ∧ Y (i + 1) = Y m := ⟨m + (n - 1), by rw [show m + (n - 1) + 1 = m + n from by omega]; exact ⟨h.px m, h.py m⟩⟩
  rw [← wl_all h i]
  have all' : ∀ j, ¬ low (X j - X (i + 1)) (Y j - Y (i + 1)) := fun j => by rw [hi.1, hi.2]; exact all j
  have o : open_ n X Y (i + 1) = 0 := sm_zero (fun j _ _ => by unfold side cr; rw [if_neg (all' _), if_neg (all' _)])
  have l : L (X (i + 2) - X (i + 1)) (Y (i + 2) - Y (i + 1)) = 0 := by unfold L; rw [if_neg (all' _)]
  have ne := h.edge (i + 1)
  simp only [Nat.add_assoc, Nat.reduceAdd] at ne
  have lo2 : low (-(X (i + 2) - X (i + 1))) (-(Y (i + 2) - Y (i + 1))) := (low_neg ne).2 (all' _)
  have lo1 : ¬ low (-(X (i + 1) - X i)) (-(Y (i + 1) - Y i)) := by
    rw [show -(X (i + 1) - X i) = X i - X (i + 1) from by omega, show -(Y (i + 1) - Y i) = Y i - Y (i + 1) from by omega]; exact all' _
  unfold wl
  rw [o, l]
  unfold cr
  rw [if_neg lo1, if_pos lo2]
  split <;> omega

/-! ### A point on a side -/
theorem cr_zero {a b c d : Int} (h : cro a b c d = 0) : cr a b c d = 0 := by
  unfold cr; rw [h]; simp
theorem low_scale {k a b : Int} (hk : 0 < k) : low (k * a) (k * b) ↔ low a b := by
  unfold low
  have e1 : k * b < 0 ↔ b < 0 := by
    constructor
    · intro h; apply Classical.byContradiction; intro c
      have := Int.mul_nonneg (Int.le_of_lt hk) (show 0 ≤ b by omega); omega
    · intro h; have := Int.mul_pos hk (show 0 < -b by omega); rw [Int.mul_neg] at this; omega
  have e2 : k * b = 0 ↔ b = 0 := by
    constructor
    · intro h; rcases Int.mul_eq_zero.1 h with c | c <;> omega
    · rintro rfl; simp
  have e3 : 0 < k * a ↔ 0 < a := by
    constructor
    · intro h; exact pos_of_mul' h (Int.le_of_lt hk)
    · intro h; exact Int.mul_pos hk h
  rw [e1, e2, e3]
theorem cro_scale_r {k a b c d : Int} : cro a b (k * c) (k * d) = k * cro a b c d := by unfold cro; grind
theorem sign_scale {k x : Int} (hk : 0 < k) : (0 < k * x ↔ 0 < x) ∧ (k * x < 0 ↔ x < 0) := by
  constructor
  · constructor
    · intro h; exact pos_of_mul' h (Int.le_of_lt hk)
    · intro h; exact Int.mul_pos hk h
  · constructor
    · intro h; apply Classical.byContradiction; intro c
      have := Int.mul_nonneg (Int.le_of_lt hk) (show 0 ≤ x by omega); omega
    · intro h; have := Int.mul_pos hk (show 0 < -x by omega); rw [Int.mul_neg] at this; omega
theorem cr_scale_r {k a b c d : Int} (hk : 0 < k) : cr a b (k * c) (k * d) = cr a b c d := by
  unfold cr; rw [cro_scale_r]; simp only [low_scale hk, (sign_scale hk).1, (sign_scale hk).2]
theorem cr_scale_l {k a b c d : Int} (hk : 0 < k) : cr (k * a) (k * b) c d = cr a b c d := by
  rw [cr_swap c d, cr_scale_r hk, cr_swap]; omega
theorem cr_same_r {k m a b c d c' d' : Int} (hk : 0 < k) (hm : 0 < m) (h1 : k * c' = m * c) (h2 : k * d' = m * d) : cr a b c' d' = cr a b c d := by
  rw [← cr_scale_r hk, h1, h2, cr_scale_r hm]
theorem L_scale {k a b : Int} (hk : 0 < k) : L (k * a) (k * b) = L a b := by unfold L; simp only [low_scale hk]

/-- Seen from a point c inside side i + 1: all the other sides. -/
def rest (n : Nat) (X Y : Nat → Int) (i : Nat) (cx cy : Int) : Int := sm (i + 2) (n - 1) (side X Y cx cy)

/-- A functional that is positive from both ends of a side is so from a point between. -/
theorem mid_pos {al be gx gy ax ay bx b_y cx cy zx zy : Int} (ha : 0 < al) (hb : 0 < be) (hx : (al + be) * cx = al * ax + be * bx) (hy : (al + be) * cy = al * ay + be * b_y)
    (h1 : 0 < gx * (zx - ax) + gy * (zy - ay)) (h2 : 0 ≤ gx * (zx - bx) + gy * (zy - b_y)) : 0 < gx * (zx - cx) + gy * (zy - cy) := by
  have e : (al + be) * (gx * (zx - cx) + gy * (zy - cy)) = al * (gx * (zx - ax) + gy * (zy - ay)) + be * (gx * (zx - bx) + gy * (zy - b_y)) := by grind
  have p1 := Int.mul_pos ha h1
  have p2 := Int.mul_nonneg (Int.le_of_lt hb) h2
  exact pos_of_mul' (a := al + be) (by rw [e]; omega) (by omega)

theorem rest_eq {n : Nat} {X Y : Nat → Int} (h : Simple n X Y) {i : Nat} {al be cx cy : Int} (ha : 0 < al) (hb : 0 < be)
    (hx : (al + be) * cx = al * X (i + 1) + be * X (i + 2)) (hy : (al + be) * cy = al * Y (i + 1) + be * Y (i + 2)) :
    wl n X Y i = rest n X Y i cx cy + 1 - L (X (i + 2) - X (i + 1)) (Y (i + 2) - Y (i + 1)) := by
  obtain ⟨m, rfl⟩ : ∃ m, n = m + 3 := ⟨n - 3, by have := h.n3; omega⟩
  have e1 : open_ (m + 3) X Y (i + 1) = sm (i + 2) (m + 1) (side X Y (X (i + 1)) (Y (i + 1))) := rfl
  have e2 : rest (m + 3) X Y i cx cy = sm (i + 2) (m + 1) (side X Y cx cy) + side X Y cx cy (i + 2 + (m + 1)) := rfl
  have c := sm_cells (lo := i + 2) (k := m + 1) (f := side X Y (X (i + 1)) (Y (i + 1))) (g := side X Y cx cy)
    (h := fun j => cr (X j - X (i + 1)) (Y j - Y (i + 1)) (X j - cx) (Y j - cy)) (fun j a b => cell (by
      by_cases e : j = i + 2
      · subst e
        obtain ⟨gx, gy, g1, g2⟩ := h.fwd (i + 1)
        simp only [Nat.add_assoc, Nat.reduceAdd] at g1 g2 ⊢
        have s1 : gx * (X (i + 3) - X (i + 1)) + gy * (Y (i + 3) - Y (i + 1)) = (gx * (X (i + 2) - X (i + 1)) + gy * (Y (i + 2) - Y (i + 1))) + (gx * (X (i + 3) - X (i + 2)) + gy * (Y (i + 3) - Y (i + 2))) := by grind
        exact ⟨gx, gy, g1, by omega, mid_pos ha hb hx hy g1 (by simp), mid_pos ha hb hx hy (by omega) (by omega)⟩
      · obtain ⟨gx, gy, g1, g2, g3, g4⟩ := h.sep (i + 1) j (by omega) (by omega)
        simp only [Nat.add_assoc, Nat.reduceAdd] at g3 g4
        exact ⟨gx, gy, g1, g2, mid_pos ha hb hx hy g1 (Int.le_of_lt g3), mid_pos ha hb hx hy g2 (Int.le_of_lt g4)⟩))
  have p1 : X (i + 2 + (m + 1)) = X i := by rw [show i + 2 + (m + 1) = i + (m + 3) from by omega]; exact h.px i
  have p2 : Y (i + 2 + (m + 1)) = Y i := by rw [show i + 2 + (m + 1) = i + (m + 3) from by omega]; exact h.py i
  have p3 : X (i + 2 + (m + 1) + 1) = X (i + 1) := by rw [show i + 2 + (m + 1) + 1 = i + 1 + (m + 3) from by omega]; exact h.px _
  have p4 : Y (i + 2 + (m + 1) + 1) = Y (i + 1) := by rw [show i + 2 + (m + 1) + 1 = i + 1 + (m + 3) from by omega]; exact h.py _
  have s2 : side X Y cx cy (i + 2 + (m + 1)) = cr (X i - cx) (Y i - cy) (X (i + 1) - cx) (Y (i + 1) - cy) := by unfold side; rw [p1, p2, p3, p4]
  rw [s2] at e2
  simp only [p1, p2] at c
  have z : cr (X (i + 2) - X (i + 1)) (Y (i + 2) - Y (i + 1)) (X (i + 2) - cx) (Y (i + 2) - cy) = 0 := by
    apply cr_zero; unfold cro
    have : (al + be) * ((X (i + 2) - X (i + 1)) * (Y (i + 2) - cy) - (Y (i + 2) - Y (i + 1)) * (X (i + 2) - cx)) = 0 := by grind
    rcases Int.mul_eq_zero.1 this with q | q <;> omega
  have fw : Fwd (X i - X (i + 1)) (Y i - Y (i + 1)) (X (i + 1) - cx) (Y (i + 1) - cy) := by
    obtain ⟨gx, gy, g1, g2⟩ := (h.fwd i).neg
    refine ⟨gx, gy, by rw [show X i - X (i + 1) = -(X (i + 1) - X i) from by omega, show Y i - Y (i + 1) = -(Y (i + 1) - Y i) from by omega]; exact g1, ?_⟩
    have e : (al + be) * (gx * (X (i + 1) - cx) + gy * (Y (i + 1) - cy)) = be * (gx * -(X (i + 2) - X (i + 1)) + gy * -(Y (i + 2) - Y (i + 1))) := by grind
    exact pos_of_mul' (a := al + be) (by rw [e]; exact Int.mul_pos hb g2) (by omega)
  have t1 := tri' fw (s := X i - cx) (t := Y i - cy) (by omega) (by omega)
  have sc : cr (X i - X (i + 1)) (Y i - Y (i + 1)) (X (i + 1) - cx) (Y (i + 1) - cy) = cr (X i - X (i + 1)) (Y i - Y (i + 1)) (-(X (i + 2) - X (i + 1))) (-(Y (i + 2) - Y (i + 1))) :=
    cr_same_r (k := al + be) (m := be) (by omega) hb (by grind) (by grind)
  unfold wl
  rw [show -(X (i + 1) - X i) = X i - X (i + 1) from by omega, show -(Y (i + 1) - Y i) = Y i - Y (i + 1) from by omega, ← sc]
  omega

/-- How often the polygon goes round a point. -/
def wn (n : Nat) (X Y : Nat → Int) (x y : Int) : Int := sm 0 n (side X Y x y)
theorem side_period {n : Nat} {X Y : Nat → Int} (px : ∀ i, X (i + n) = X i) (py : ∀ i, Y (i + n) = Y i) (x y : Int) (i : Nat) : side X Y x y (i + n) = side X Y x y i := by
  unfold side; rw [show i + n + 1 = i + 1 + n from by omega, px, py, px, py]
theorem wn_from {n : Nat} {X Y : Nat → Int} (px : ∀ i, X (i + n) = X i) (py : ∀ i, Y (i + n) = Y i) (x y : Int) (lo : Nat) : wn n X Y x y = sm lo n (side X Y x y) :=
  (sm_period (side_period px py x y) lo).symm

/-- Nothing but side i + 1 comes between a point and a point c inside that side, to the east at the same height. -/
theorem wn_near {n : Nat} {X Y : Nat → Int} (h : Simple n X Y) {i : Nat} {al be cx qx qy : Int} (ha : 0 < al) (hb : 0 < be)
    (hx : (al + be) * cx = al * X (i + 1) + be * X (i + 2)) (hy : (al + be) * qy = al * Y (i + 1) + be * Y (i + 2)) (hq : qx < cx)
    (g1 : Y (i + 1) ≠ qy) (g2 : Y (i + 2) ≠ qy)
    (hs : ∀ j, i + 2 ≤ j → j < i + 1 + n → Sep qx qy cx qy (X j) (Y j) (X (j + 1)) (Y (j + 1))) :
    (Y (i + 1) < Y (i + 2) → wn n X Y qx qy = wl n X Y i) ∧ (Y (i + 2) < Y (i + 1) → wn n X Y qx qy = wl n X Y i - 1) := by
  have n3 := h.n3
  have e := rest_eq h ha hb hx hy
  obtain ⟨m, rfl⟩ : ∃ m, n = m + 1 := ⟨n - 1, by omega⟩
  have e1 : wn (m + 1) X Y qx qy = sm (i + 2) m (side X Y qx qy) + side X Y qx qy (i + 2 + m) := wn_from h.px h.py qx qy (i + 2)
  have e2 : rest (m + 1) X Y i cx qy = sm (i + 2) m (side X Y cx qy) := rfl
  have c := sm_cells (lo := i + 2) (k := m) (f := side X Y qx qy) (g := side X Y cx qy)
    (h := fun j => cr (X j - qx) (Y j - qy) (X j - cx) (Y j - qy)) (fun j a b => cell (hs j a (by omega)))
  have p1 : X (i + 2 + m) = X (i + 1) := by rw [show i + 2 + m = i + 1 + (m + 1) from by omega]; exact h.px _
  have p2 : Y (i + 2 + m) = Y (i + 1) := by rw [show i + 2 + m = i + 1 + (m + 1) from by omega]; exact h.py _
  have p3 : X (i + 2 + m + 1) = X (i + 2) := by rw [show i + 2 + m + 1 = i + 2 + (m + 1) from by omega]; exact h.px _
  have p4 : Y (i + 2 + m + 1) = Y (i + 2) := by rw [show i + 2 + m + 1 = i + 2 + (m + 1) from by omega]; exact h.py _
  simp only [p1, p2] at c
  have z : ∀ u v w : Int, w ≠ 0 → cr u w v w = 0 := by
    intro u v w hw
    have : low u w ↔ low v w := by unfold low; omega
    unfold cr; simp only [this]
    split <;> rfl
  rw [z _ _ _ (by omega), z _ _ _ (by omega)] at c
  have s : side X Y qx qy (i + 2 + m) = cr (X (i + 1) - qx) (Y (i + 1) - qy) (X (i + 2) - qx) (Y (i + 2) - qy) := by unfold side; rw [p1, p2, p3, p4]
  rw [s] at e1
  -- the sign of the cross product
  have k : (al + be) * cro (X (i + 1) - qx) (Y (i + 1) - qy) (X (i + 2) - qx) (Y (i + 2) - qy) = (al + be) * ((cx - qx) * (Y (i + 2) - Y (i + 1))) := by unfold cro; grind
  have k' : cro (X (i + 1) - qx) (Y (i + 1) - qy) (X (i + 2) - qx) (Y (i + 2) - qy) = (cx - qx) * (Y (i + 2) - Y (i + 1)) := by
    rcases Int.mul_eq_mul_left_iff (show al + be ≠ 0 by omega) |>.1 k with q
    exact q
  constructor
  · intro up
    have b1 : Y (i + 1) < qy ∧ qy < Y (i + 2) := by
      constructor
      · apply Classical.byContradiction; intro c
        have := Int.mul_pos hb (show 0 < Y (i + 2) - qy by omega)
        have := Int.mul_nonneg (Int.le_of_lt ha) (show 0 ≤ Y (i + 1) - qy by omega)
        grind
      · apply Classical.byContradiction; intro c
        have := Int.mul_pos ha (show 0 < qy - Y (i + 1) by omega)
        have := Int.mul_nonneg (Int.le_of_lt hb) (show 0 ≤ qy - Y (i + 2) by omega)
        grind
    have v : cr (X (i + 1) - qx) (Y (i + 1) - qy) (X (i + 2) - qx) (Y (i + 2) - qy) = 1 := by
      unfold cr
      rw [if_pos (by unfold low; omega), if_neg (by unfold low; omega), if_pos]
      rw [k']; exact Int.mul_pos (by omega) (by omega)
    have l : L (X (i + 2) - X (i + 1)) (Y (i + 2) - Y (i + 1)) = 0 := by unfold L; rw [if_neg (by unfold low; omega)]
    omega
  · intro dn
    have b1 : Y (i + 2) < qy ∧ qy < Y (i + 1) := by
      constructor
      · apply Classical.byContradiction; intro c
        have := Int.mul_pos ha (show 0 < Y (i + 1) - qy by omega)
        have := Int.mul_nonneg (Int.le_of_lt hb) (show 0 ≤ Y (i + 2) - qy by omega)
        grind
      · apply Classical.byContradiction; intro c
        have := Int.mul_pos hb (show 0 < qy - Y (i + 2) by omega)
        have := Int.mul_nonneg (Int.le_of_lt ha) (show 0 ≤ qy - Y (i + 1) by omega)
        grind
    have v : cr (X (i + 1) - qx) (Y (i + 1) - qy) (X (i + 2) - qx) (Y (i + 2) - qy) = -1 := by
      unfold cr
      rw [if_neg (by unfold low; omega), if_pos (by unfold low; omega), if_pos]
      rw [k']
      have := Int.mul_pos (show 0 < cx - qx by omega) (show 0 < Y (i + 1) - Y (i + 2) by omega)
      have e3 : (cx - qx) * (Y (i + 1) - Y (i + 2)) = - ((cx - qx) * (Y (i + 2) - Y (i + 1))) := by rw [← Int.mul_neg]; congr 1; omega
      omega
    have l : L (X (i + 2) - X (i + 1)) (Y (i + 2) - Y (i + 1)) = 1 := by unfold L; rw [if_pos (by unfold low; omega)]
    omega

end Go.Proofs.Ytgdhgncdpmalcaa.Geo
namespace Go.Proofs.Ytgdhgncdpmalcaa.Geo
open Go.Proofs.Ytgdhgncdpmalcaa.Pure
set_option linter.unusedVariables false
theorem Sep.swap {ax ay bx b_y cx cy dx dy : Int} (h : Sep cx cy dx dy ax ay bx b_y) : Sep ax ay bx b_y cx cy dx dy := by
  obtain ⟨gx, gy, h1, h2, h3, h4⟩ := h
  refine ⟨-gx, -gy, ?_, ?_, ?_, ?_⟩
  · rw [show -gx * (cx - ax) + -gy * (cy - ay) = gx * (ax - cx) + gy * (ay - cy) by grind]; exact h1
  · rw [show -gx * (dx - ax) + -gy * (dy - ay) = gx * (ax - dx) + gy * (ay - dy) by grind]; exact h3
  · rw [show -gx * (cx - bx) + -gy * (cy - b_y) = gx * (bx - cx) + gy * (b_y - cy) by grind]; exact h2
  · rw [show -gx * (dx - bx) + -gy * (dy - b_y) = gx * (bx - dx) + gy * (b_y - dy) by grind]; exact h4
theorem Sep.swap2 {ax ay bx b_y cx cy dx dy : Int} (h : Sep ax ay bx b_y dx dy cx cy) : Sep ax ay bx b_y cx cy dx dy := by
  obtain ⟨gx, gy, h1, h2, h3, h4⟩ := h
  exact ⟨gx, gy, h2, h1, h4, h3⟩
theorem Sep.swap1 {ax ay bx b_y cx cy dx dy : Int} (h : Sep bx b_y ax ay cx cy dx dy) : Sep ax ay bx b_y cx cy dx dy := by
  obtain ⟨gx, gy, h1, h2, h3, h4⟩ := h
  exact ⟨gx, gy, h3, h4, h1, h2⟩
theorem between {D N p r : Int} (hD : 0 < D) (h : r * D = p * N) (h0 : 0 ≤ N) (h1 : N ≤ D) : min 0 p ≤ r ∧ r ≤ max 0 p := by
  rcases Int.le_total 0 p with hp | hp
  · have a := Int.mul_nonneg hp h0
    have b := Int.mul_le_mul_of_nonneg_left h1 hp
    have r0 : 0 ≤ r := Int.le_of_mul_le_mul_right (a := D) (by rw [Int.zero_mul]; omega) hD
    have r1 : r ≤ p := Int.le_of_mul_le_mul_right (a := D) (by omega) hD
    omega
  · have hp' : 0 ≤ -p := by omega
    have a := Int.mul_nonneg hp' h0
    have b := Int.mul_le_mul_of_nonneg_left h1 hp'
    rw [Int.neg_mul] at a b
    rw [Int.neg_mul] at b
    have r0 : r ≤ 0 := Int.le_of_mul_le_mul_right (a := D) (by rw [Int.zero_mul]; omega) hD
    have r1 : p ≤ r := Int.le_of_mul_le_mul_right (a := D) (by omega) hD
    omega
theorem sq_nonneg (p : Int) : 0 ≤ p * p := by
  rcases Int.le_total 0 p with h | h
  · exact Int.mul_nonneg h h
  · have := Int.mul_nonneg (show 0 ≤ -p by omega) (show 0 ≤ -p by omega)
    rw [Int.neg_mul_neg] at this; exact this
theorem sq_pos {p : Int} (h : p ≠ 0) : 0 < p * p := by
  have := sq_nonneg p
  have : p * p ≠ 0 := fun e => by rcases Int.mul_eq_zero.1 e with q | q <;> exact h q
  omega
theorem norm_pos {p q : Int} (h : ¬ (p = 0 ∧ q = 0)) : 0 < p * p + q * q := by
  have a := sq_nonneg p; have b := sq_nonneg q
  by_cases hp : p = 0
  · have := sq_pos (p := q) (fun e => h ⟨hp, e⟩); omega
  · have := sq_pos hp; omega
/-- A point on the line but not on the segment lies before its beginning or behind its end. -/
theorem line_off {ax ay p q r s : Int} (h : ¬ (p = 0 ∧ q = 0)) (hc : p * s - q * r = 0) (hn : ¬ onP ax ay (ax + p) (ay + q) (ax + r) (ay + s)) :
    p * r + q * s < 0 ∨ p * p + q * q < p * r + q * s := by
  have hD := norm_pos h
  apply Classical.byContradiction; intro k
  have k0 : 0 ≤ p * r + q * s := by omega
  have k1 : p * r + q * s ≤ p * p + q * q := by omega
  have b1 := between hD (p := p) (r := r) (by grind) k0 k1
  have b2 := between hD (p := q) (r := s) (by grind) k0 k1
  apply hn
  unfold onP crs
  refine ⟨?_, ?_⟩
  · rw [show ax + p - ax = p by omega, show ay + s - ay = s by omega, show ay + q - ay = q by omega, show ax + r - ax = r by omega]; exact hc
  · omega
theorem big {K a x : Int} (hK : a.natAbs < K) (hx : 1 ≤ x) : 0 < K * x + a := by
  have : K * 1 ≤ K * x := Int.mul_le_mul_of_nonneg_left hx (by omega)
  omega
/-- c and d on one side of the line a b (or on it), and no point of one segment on the other one. -/
theorem sep0 {ax ay p q r s t z : Int} (h : ¬ (p = 0 ∧ q = 0)) (s1 : 0 ≤ p * s - q * r) (s2 : 0 ≤ p * z - q * t)
    (n1 : ¬ onP ax ay (ax + p) (ay + q) (ax + r) (ay + s)) (n2 : ¬ onP ax ay (ax + p) (ay + q) (ax + t) (ay + z)) (n3 : ¬ onP (ax + r) (ay + s) (ax + t) (ay + z) ax ay) :
    Sep ax ay (ax + p) (ay + q) (ax + r) (ay + s) (ax + t) (ay + z) := by
  have key : ∀ {r s t z : Int}, p * s - q * r = 0 → 0 < p * z - q * t → ¬ onP ax ay (ax + p) (ay + q) (ax + r) (ay + s) → Sep ax ay (ax + p) (ay + q) (ax + r) (ay + s) (ax + t) (ay + z) := by
    intro r s t z e1 e2 n1
    have : ∃ f : Int, 0 < f * (p * r + q * s) ∧ 0 < f * (p * (r - p) + q * (s - q)) := by
      have e : p * (r - p) + q * (s - q) = p * r + q * s - (p * p + q * q) := by grind
      have hD := norm_pos h
      rcases line_off h e1 n1 with k | k
      · exact ⟨-1, by omega, by omega⟩
      · exact ⟨1, by omega, by omega⟩
    obtain ⟨f, f1, f2⟩ := this
    refine ⟨((f * (p * t + q * z)).natAbs + (f * (p * (t - p) + q * (z - q))).natAbs + 1 : Nat) * -q + f * p, ((f * (p * t + q * z)).natAbs + (f * (p * (t - p) + q * (z - q))).natAbs + 1 : Nat) * p + f * q, ?_, ?_, ?_, ?_⟩
    all_goals generalize hK : (((f * (p * t + q * z)).natAbs + (f * (p * (t - p) + q * (z - q))).natAbs + 1 : Nat) : Int) = K
    · rw [show (K * -q + f * p) * (ax + r - ax) + (K * p + f * q) * (ay + s - ay) = K * (p * s - q * r) + f * (p * r + q * s) by grind, e1]; omega
    · rw [show (K * -q + f * p) * (ax + t - ax) + (K * p + f * q) * (ay + z - ay) = K * (p * z - q * t) + f * (p * t + q * z) by grind]
      exact big (by omega) (by omega)
    · rw [show (K * -q + f * p) * (ax + r - (ax + p)) + (K * p + f * q) * (ay + s - (ay + q)) = K * (p * s - q * r) + f * (p * (r - p) + q * (s - q)) by grind, e1]; omega
    · rw [show (K * -q + f * p) * (ax + t - (ax + p)) + (K * p + f * q) * (ay + z - (ay + q)) = K * (p * z - q * t) + f * (p * (t - p) + q * (z - q)) by grind]
      exact big (by omega) (by omega)
  by_cases c1 : p * s - q * r = 0
  · by_cases c2 : p * z - q * t = 0
    · have hD := norm_pos h
      have e1 : p * (r - p) + q * (s - q) = p * r + q * s - (p * p + q * q) := by grind
      have e2 : p * (t - p) + q * (z - q) = p * t + q * z - (p * p + q * q) := by grind
      have opp : ∀ {a b : Int}, a = p * r + q * s → b = p * t + q * z → (a < 0 ∧ 0 < b ∨ 0 < a ∧ b < 0) → False := by
        intro a b ha hb hab
        have m : (p * p + q * q) * (r * t + s * z) = a * b := by rw [ha, hb]; grind
        have mn : a * b < 0 := by
          rcases hab with ⟨x, y⟩ | ⟨x, y⟩
          · have := Int.mul_pos (show 0 < -a by omega) y; rw [Int.neg_mul] at this; omega
          · have := Int.mul_pos x (show 0 < -b by omega); rw [Int.mul_neg] at this; omega
        have vw : r * t + s * z < 0 := by
          apply Classical.byContradiction; intro k
          have := Int.mul_nonneg (Int.le_of_lt hD) (show 0 ≤ r * t + s * z by omega); omega
        have ne : ¬ (t - r = 0 ∧ z - s = 0) := fun ⟨x, y⟩ => by
          have : t = r := by omega
          have : z = s := by omega
          subst t; subst z
          have := sq_nonneg r; have := sq_nonneg s; omega
        have cz : (t - r) * -s - (z - s) * -r = 0 := by
          have : (p * p + q * q) * ((t - r) * -s - (z - s) * -r) = 0 := by grind
          rcases Int.mul_eq_zero.1 this with x | x <;> omega
        have n3' : ¬ onP (ax + r) (ay + s) (ax + r + (t - r)) (ay + s + (z - s)) (ax + r + -r) (ay + s + -s) := by
          rw [show ax + r + (t - r) = ax + t by omega, show ay + s + (z - s) = ay + z by omega, show ax + r + -r = ax by omega, show ay + s + -s = ay by omega]; exact n3
        have v0 := sq_nonneg r; have v1 := sq_nonneg s; have v2 := sq_nonneg t; have v3 := sq_nonneg z
        rcases line_off ne cz n3' with k | k
        · rw [show (t - r) * -r + (z - s) * -s = r * r + s * s - (r * t + s * z) by grind] at k; omega
        · rw [show (t - r) * -r + (z - s) * -s = r * r + s * s - (r * t + s * z) by grind, show (t - r) * (t - r) + (z - s) * (z - s) = r * r + s * s + (t * t + z * z) - 2 * (r * t + s * z) by grind] at k; omega
      rcases line_off h c1 n1 with k1 | k1
      · rcases line_off h c2 n2 with k2 | k2
        · refine ⟨-p, -q, ?_, ?_, ?_, ?_⟩
          · rw [show -p * (ax + r - ax) + -q * (ay + s - ay) = -(p * r + q * s) by grind]; omega
          · rw [show -p * (ax + t - ax) + -q * (ay + z - ay) = -(p * t + q * z) by grind]; omega
          · rw [show -p * (ax + r - (ax + p)) + -q * (ay + s - (ay + q)) = -(p * (r - p) + q * (s - q)) by grind]; omega
          · rw [show -p * (ax + t - (ax + p)) + -q * (ay + z - (ay + q)) = -(p * (t - p) + q * (z - q)) by grind]; omega
        · exact (opp rfl rfl (.inl ⟨k1, by omega⟩)).elim
      · rcases line_off h c2 n2 with k2 | k2
        · exact (opp rfl rfl (.inr ⟨by omega, k2⟩)).elim
        · refine ⟨p, q, ?_, ?_, ?_, ?_⟩
          · rw [show p * (ax + r - ax) + q * (ay + s - ay) = (p * r + q * s) by grind]; omega
          · rw [show p * (ax + t - ax) + q * (ay + z - ay) = (p * t + q * z) by grind]; omega
          · rw [show p * (ax + r - (ax + p)) + q * (ay + s - (ay + q)) = (p * (r - p) + q * (s - q)) by grind]; omega
          · rw [show p * (ax + t - (ax + p)) + q * (ay + z - (ay + q)) = (p * (t - p) + q * (z - q)) by grind]; omega
    · exact key c1 (by omega) n1
  · by_cases c2 : p * z - q * t = 0
    · exact (key c2 (by omega) n2).swap2
    · refine ⟨-q, p, ?_, ?_, ?_, ?_⟩
      · rw [show -q * (ax + r - ax) + p * (ay + s - ay) = p * s - q * r by grind]; omega
      · rw [show -q * (ax + t - ax) + p * (ay + z - ay) = p * z - q * t by grind]; omega
      · rw [show -q * (ax + r - (ax + p)) + p * (ay + s - (ay + q)) = p * s - q * r by grind]; omega
      · rw [show -q * (ax + t - (ax + p)) + p * (ay + z - (ay + q)) = p * z - q * t by grind]; omega
theorem sep1 {ax ay bx b_y cx cy dx dy : Int} (h : ¬ (bx = ax ∧ b_y = ay)) (s1 : 0 ≤ crs ax ay bx b_y cx cy) (s2 : 0 ≤ crs ax ay bx b_y dx dy)
    (n1 : ¬ onP ax ay bx b_y cx cy) (n2 : ¬ onP ax ay bx b_y dx dy) (n3 : ¬ onP cx cy dx dy ax ay) : Sep ax ay bx b_y cx cy dx dy := by
  have e : ∀ u v : Int, v = u + (v - u) := fun u v => by omega
  have := sep0 (ax := ax) (ay := ay) (p := bx - ax) (q := b_y - ay) (r := cx - ax) (s := cy - ay) (t := dx - ax) (z := dy - ay) (by omega) s1 s2
    (by rw [← e, ← e, ← e, ← e]; exact n1) (by rw [← e, ← e, ← e, ← e]; exact n2) (by rw [← e, ← e, ← e, ← e]; exact n3)
  rw [← e, ← e, ← e, ← e, ← e, ← e] at this
  exact this
theorem sep2 {ax ay bx b_y cx cy dx dy : Int} (h : ¬ (bx = ax ∧ b_y = ay)) (so : ¬ opp (crs ax ay bx b_y cx cy) (crs ax ay bx b_y dx dy))
    (n1 : ¬ onP ax ay bx b_y cx cy) (n2 : ¬ onP ax ay bx b_y dx dy) (n3 : ¬ onP cx cy dx dy ax ay) (n4 : ¬ onP cx cy dx dy bx b_y) : Sep ax ay bx b_y cx cy dx dy := by
  by_cases c : 0 ≤ crs ax ay bx b_y cx cy ∧ 0 ≤ crs ax ay bx b_y dx dy
  · exact sep1 h c.1 c.2 n1 n2 n3
  · unfold opp at so
    refine Sep.swap1 (sep1 (by omega) ?_ ?_ (by rw [onP_sym]; exact n1) (by rw [onP_sym]; exact n2) n4)
    · rw [crs_swap]; omega
    · rw [crs_swap]; omega
theorem sep_meet {ax ay bx b_y cx cy dx dy : Int} (h : ¬ (bx = ax ∧ b_y = ay)) (h2 : ¬ (dx = cx ∧ dy = cy)) (hm : ¬ meetI ax ay bx b_y cx cy dx dy) : Sep ax ay bx b_y cx cy dx dy := by
  unfold meetI at hm
  have n1 : ¬ onP ax ay bx b_y cx cy := fun c => hm (.inl c)
  have n2 : ¬ onP ax ay bx b_y dx dy := fun c => hm (.inr (.inl c))
  have n3 : ¬ onP cx cy dx dy ax ay := fun c => hm (.inr (.inr (.inl c)))
  have n4 : ¬ onP cx cy dx dy bx b_y := fun c => hm (.inr (.inr (.inr (.inl c))))
  by_cases c : opp (crs ax ay bx b_y cx cy) (crs ax ay bx b_y dx dy)
  · have c2 : ¬ opp (crs cx cy dx dy ax ay) (crs cx cy dx dy bx b_y) := fun d => hm (.inr (.inr (.inr (.inr ⟨c, d⟩))))
    exact (sep2 h2 c2 n3 n4 n1 n2).swap
  · exact sep2 h c n1 n2 n3 n4
theorem fwd_of {ax ay bx b_y cx cy : Int} (h1 : ¬ (bx = ax ∧ b_y = ay)) (h2 : ¬ (cx = bx ∧ cy = b_y)) (n1 : ¬ onP ax ay bx b_y cx cy) (n2 : ¬ onP bx b_y cx cy ax ay) :
    Fwd (bx - ax) (b_y - ay) (cx - bx) (cy - b_y) := by
  have e : crs ax ay bx b_y cx cy = (bx - ax) * (cy - b_y) - (b_y - ay) * (cx - bx) := by unfold crs; grind
  obtain ⟨p, hp⟩ : ∃ p, p = bx - ax := ⟨_, rfl⟩
  obtain ⟨q, hq⟩ : ∃ q, q = b_y - ay := ⟨_, rfl⟩
  obtain ⟨r, hr⟩ : ∃ r, r = cx - bx := ⟨_, rfl⟩
  obtain ⟨s, hs⟩ : ∃ s, s = cy - b_y := ⟨_, rfl⟩
  rw [← hp, ← hq, ← hr, ← hs] at e ⊢
  rcases Int.lt_trichotomy (p * s - q * r) 0 with k | k | k
  · refine ⟨-s - -q, r - p, ?_, ?_⟩
    · rw [show (-s - -q) * p + (r - p) * q = -(p * s - q * r) by grind]; omega
    · rw [show (-s - -q) * r + (r - p) * s = -(p * s - q * r) by grind]; omega
  · have hD := norm_pos (p := p) (q := q) (by omega)
    refine ⟨p, q, by omega, ?_⟩
    have a := line_off (ax := ax) (ay := ay) (p := p) (q := q) (r := p + r) (s := q + s) (by omega) (by grind)
      (by rw [show ax + p = bx by omega, show ay + q = b_y by omega, show ax + (p + r) = cx by omega, show ay + (q + s) = cy by omega]; exact n1)
    have b := line_off (ax := bx) (ay := b_y) (p := r) (q := s) (r := -p) (s := -q) (by omega) (by grind)
      (by rw [show bx + r = cx by omega, show b_y + s = cy by omega, show bx + -p = ax by omega, show b_y + -q = ay by omega]; exact n2)
    rw [show p * (p + r) + q * (q + s) = (p * p + q * q) + (p * r + q * s) by grind] at a
    rw [show r * -p + s * -q = -(p * r + q * s) by grind] at b
    have hE := norm_pos (p := r) (q := s) (by omega)
    have e2 : (p * r + q * s) * (p * r + q * s) = (p * p + q * q) * (r * r + s * s) := by
      have : (p * r + q * s) * (p * r + q * s) = (p * p + q * q) * (r * r + s * s) - (p * s - q * r) * (p * s - q * r) := by grind
      rw [k] at this; omega
    generalize p * r + q * s = N at a b e2 ⊢
    generalize p * p + q * q = D at a b e2 hD
    generalize r * r + s * s = F at a b e2 hE
    by_cases c : 0 < N
    · exact c
    · have m := Int.mul_pos (show 0 < -N - D by omega) (show 0 < -N - F by omega)
      have m1 := Int.mul_pos hD (show 0 < -N - F by omega)
      have m2 := Int.mul_pos hE (show 0 < -N - D by omega)
      grind
  · refine ⟨s - q, -r - -p, ?_, ?_⟩
    · rw [show (s - q) * p + (-r - -p) * q = (p * s - q * r) by grind]; omega
    · rw [show (s - q) * r + (-r - -p) * s = (p * s - q * r) by grind]; omega
theorem SimpI.ne {n : Nat} {X Y : Nat → Int} (h : SimpI n X Y) (i : Nat) : ¬ (X (i + 1) = X i ∧ Y (i + 1) = Y i) := fun ⟨a, b⟩ => by
  have n3 := h.n3
  have m1 := Nat.mod_lt i (show 0 < n by omega)
  have m2 := Nat.mod_lt (i + 1) (show 0 < n by omega)
  have e := h.dist _ _ m1 m2 (by rw [modp h.px, modp h.px]; exact a.symm) (by rw [modp h.py, modp h.py]; exact b.symm)
  rw [Nat.add_mod] at e
  by_cases c : i % n + 1 < n
  · rw [Nat.mod_eq_of_lt (show 1 < n by omega), Nat.mod_eq_of_lt c] at e; omega
  · rw [Nat.mod_eq_of_lt (show 1 < n by omega), show i % n + 1 = n by omega, Nat.mod_self] at e; omega
theorem SimpI.simple {n : Nat} {X Y : Nat → Int} (h : SimpI n X Y) : Simple n X Y :=
  ⟨h.n3, h.px, h.py, fun i j h1 h2 => sep_meet (SimpI.ne h i) (SimpI.ne h j) (h.meet i j h1 h2), fun i => fwd_of (SimpI.ne h i) (SimpI.ne h (i + 1)) (h.fold i).1 (h.fold i).2⟩
end Go.Proofs.Ytgdhgncdpmalcaa.Geo
namespace Go.Proofs.Ytgdhgncdpmalcaa.Geo
open Go.Proofs.Ytgdhgncdpmalcaa.Pure
set_option linter.unusedVariables false
/-! scaled -/
theorem scl (K g h a b c d : Int) : g * (K * a - K * b) + h * (K * c - K * d) = K * (g * (a - b) + h * (c - d)) := by grind
theorem Simple.scale {n : Nat} {X Y : Nat → Int} (h : Simple n X Y) {K : Int} (hK : 0 < K) : Simple n (fun i => K * X i) (fun i => K * Y i) := by
  refine ⟨h.n3, fun i => by rw [h.px], fun i => by rw [h.py], fun i j a b => ?_, fun i => ?_⟩
  · obtain ⟨g, k, h1, h2, h3, h4⟩ := h.sep i j a b
    exact ⟨g, k, by rw [scl]; exact Int.mul_pos hK h1, by rw [scl]; exact Int.mul_pos hK h2, by rw [scl]; exact Int.mul_pos hK h3, by rw [scl]; exact Int.mul_pos hK h4⟩
  · obtain ⟨g, k, h1, h2⟩ := h.fwd i
    exact ⟨g, k, by rw [scl]; exact Int.mul_pos hK h1, by rw [scl]; exact Int.mul_pos hK h2⟩
theorem cr_scale {K a b c d a' b' c' d' : Int} (hK : 0 < K) (ha : a' = K * a) (hb : b' = K * b) (hc : c' = K * c) (hd : d' = K * d) : cr a' b' c' d' = cr a b c d := by
  rw [ha, hb, hc, hd, cr_scale_l hK, cr_scale_r hK]
theorem wn_scale {n : Nat} {X Y : Nat → Int} {K : Int} (hK : 0 < K) (x y : Int) : wn n (fun i => K * X i) (fun i => K * Y i) (K * x) (K * y) = wn n X Y x y :=
  sm_congr (fun j _ _ => cr_scale hK (by grind) (by grind) (by grind) (by grind))
theorem wl_scale {n : Nat} {X Y : Nat → Int} {K : Int} (hK : 0 < K) (i : Nat) : wl n (fun i => K * X i) (fun i => K * Y i) i = wl n X Y i := by
  have o : open_ n (fun i => K * X i) (fun i => K * Y i) (i + 1) = open_ n X Y (i + 1) :=
    sm_congr (fun j _ _ => cr_scale hK (by grind) (by grind) (by grind) (by grind))
  have l : L (K * X (i + 2) - K * X (i + 1)) (K * Y (i + 2) - K * Y (i + 1)) = L (X (i + 2) - X (i + 1)) (Y (i + 2) - Y (i + 1)) := by rw [← Int.mul_sub, ← Int.mul_sub, L_scale hK]
  unfold wl
  rw [o, l]
  rw [cr_scale (K := K) (a := -(X (i + 1) - X i)) (b := -(Y (i + 1) - Y i)) (c := -(X (i + 2) - X (i + 1))) (d := -(Y (i + 2) - Y (i + 1))) hK (by grind) (by grind) (by grind) (by grind)]
/-! a point that moves without meeting a side -/
theorem wn_move {n : Nat} {X Y : Nat → Int} (px : ∀ i, X (i + n) = X i) (py : ∀ i, Y (i + n) = Y i) {x y x' y' : Int} (hs : ∀ j, j < n → Sep x y x' y' (X j) (Y j) (X (j + 1)) (Y (j + 1))) : wn n X Y x y = wn n X Y x' y' := by
  have c := sm_cells (lo := 0) (k := n) (f := side X Y x y) (g := side X Y x' y') (h := fun j => cr (X j - x) (Y j - y) (X j - x') (Y j - y')) (fun j _ b => cell (hs j (by omega)))
  have p0 := px 0; have p1 := py 0
  rw [Nat.zero_add] at p0 p1
  simp only [Nat.zero_add, p0, p1] at c
  unfold wn; omega
/-- A point that lies on no side, and not on its line or else before or behind it: one functional is positive on what leads from it to both ends. -/
theorem off_fun {ax ay bx b_y x y : Int} (h : ¬ (bx = ax ∧ b_y = ay)) (ho : ¬ onP ax ay bx b_y x y) : ∃ g k : Int, 0 < g * (ax - x) + k * (ay - y) ∧ 0 < g * (bx - x) + k * (b_y - y) := by
  rcases Int.lt_trichotomy (crs ax ay bx b_y x y) 0 with c | c | c
  · refine ⟨-(b_y - ay), bx - ax, ?_, ?_⟩ <;> (unfold crs at c; grind)
  · have l := line_off (ax := ax) (ay := ay) (p := bx - ax) (q := b_y - ay) (r := x - ax) (s := y - ay) (by omega) c
      (by rw [show ax + (bx - ax) = bx by omega, show ay + (b_y - ay) = b_y by omega, show ax + (x - ax) = x by omega, show ay + (y - ay) = y by omega]; exact ho)
    have hD := norm_pos (p := bx - ax) (q := b_y - ay) (by omega)
    rcases l with l | l
    · refine ⟨bx - ax, b_y - ay, ?_, ?_⟩ <;> grind
    · refine ⟨-(bx - ax), -(b_y - ay), ?_, ?_⟩ <;> grind
  · refine ⟨b_y - ay, -(bx - ax), ?_, ?_⟩ <;> (unfold crs at c; grind)
/-- Finitely many functionals have a common bound. -/
theorem bound_all {P : Nat → Int → Int → Prop} (n : Nat) (h : ∀ j, j < n → ∃ g k, P j g k) : ∃ K : Int, 0 < K ∧ ∀ j, j < n → ∃ g k, P j g k ∧ k < K ∧ -K < k := by
  induction n with
  | zero => exact ⟨1, by omega, fun j hj => by omega⟩
  | succ n ih =>
    obtain ⟨K, h0, hK⟩ := ih (fun j hj => h j (by omega))
    obtain ⟨g, k, hp⟩ := h n (by omega)
    refine ⟨K + k.natAbs + 1, by omega, fun j hj => ?_⟩
    by_cases e : j = n
    · subst e; exact ⟨g, k, hp, by omega, by omega⟩
    · obtain ⟨g', k', hp', a, b⟩ := hK j (by omega)
      exact ⟨g', k', hp', by omega, by omega⟩
/-- The point lies on no side: one functional for each side. -/
def Offs (n : Nat) (X Y : Nat → Int) (x y : Int) : Prop := ∀ j, j < n → ∃ g k : Int, 0 < g * (X j - x) + k * (Y j - y) ∧ 0 < g * (X (j + 1) - x) + k * (Y (j + 1) - y)
theorem offs_of {n : Nat} {X Y : Nat → Int} {x y : Int} (ne : ∀ j, ¬ (X (j + 1) = X j ∧ Y (j + 1) = Y j)) (ho : ∀ j, j < n → ¬ onP (X j) (Y j) (X (j + 1)) (Y (j + 1)) x y) : Offs n X Y x y :=
  fun j hj => off_fun (ne j) (ho j hj)
/-- Scaled, the point may be put on a row without corners. -/
theorem row_free {n : Nat} {X Y : Nat → Int} (px : ∀ i, X (i + n) = X i) (py : ∀ i, Y (i + n) = Y i) {x y : Int} (ho : Offs n X Y x y) :
    ∃ K : Int, 1 < K ∧ wn n (fun i => K * X i) (fun i => K * Y i) (K * x) (K * y + 1) = wn n X Y x y ∧ Offs n (fun i => K * X i) (fun i => K * Y i) (K * x) (K * y + 1) := by
  obtain ⟨K, h0, hK⟩ := bound_all (P := fun j g k => 0 < g * (X j - x) + k * (Y j - y) ∧ 0 < g * (X (j + 1) - x) + k * (Y (j + 1) - y)) n ho
  have main : ∀ j, j < n → Sep ((K + 1) * x) ((K + 1) * y) ((K + 1) * x) ((K + 1) * y + 1) ((K + 1) * X j) ((K + 1) * Y j) ((K + 1) * X (j + 1)) ((K + 1) * Y (j + 1)) := fun j hj => by
    obtain ⟨g, k, ⟨h1, h2⟩, a, b⟩ := hK j hj
    have m : ∀ {t : Int}, 0 < t → 0 < (K + 1) * t ∧ 0 < (K + 1) * t - k := fun {t} ht => by
      have : (K + 1) * 1 ≤ (K + 1) * t := Int.mul_le_mul_of_nonneg_left ht (by omega)
      omega
    refine ⟨g, k, by rw [scl]; exact (m h1).1, by rw [scl]; exact (m h2).1, ?_, ?_⟩
    · rw [show g * ((K + 1) * X j - (K + 1) * x) + k * ((K + 1) * Y j - ((K + 1) * y + 1)) = (K + 1) * (g * (X j - x) + k * (Y j - y)) - k by grind]; exact (m h1).2
    · rw [show g * ((K + 1) * X (j + 1) - (K + 1) * x) + k * ((K + 1) * Y (j + 1) - ((K + 1) * y + 1)) = (K + 1) * (g * (X (j + 1) - x) + k * (Y (j + 1) - y)) - k by grind]; exact (m h2).2
  refine ⟨K + 1, by omega, ?_, fun j hj => ?_⟩
  · rw [← wn_scale (X := X) (Y := Y) (show 0 < K + 1 by omega) x y]
    exact (wn_move (fun i => by rw [px]) (fun i => by rw [py]) main).symm
  · obtain ⟨g, k, _, _, h3, h4⟩ := main j hj
    exact ⟨g, k, h3, h4⟩
theorem argmin (m : Nat) (P : Nat → Prop) (N D : Nat → Int) (hD : ∀ j, P j → 0 < D j) : (∀ j, j < m → ¬ P j) ∨ ∃ j, j < m ∧ P j ∧ ∀ k, k < m → P k → N j * D k ≤ N k * D j := by
  induction m with
  | zero => exact .inl (fun j hj => by omega)
  | succ m ih =>
    by_cases c : P m
    · rcases ih with a | ⟨j, hj, pj, hm⟩
      · refine .inr ⟨m, by omega, c, fun k hk pk => ?_⟩
        by_cases e : k = m
        · subst e; omega
        · exact (a k (by omega) pk).elim
      · by_cases d : N j * D m ≤ N m * D j
        · refine .inr ⟨j, by omega, pj, fun k hk pk => ?_⟩
          by_cases e : k = m
          · subst e; exact d
          · exact hm k (by omega) pk
        · refine .inr ⟨m, by omega, c, fun k hk pk => ?_⟩
          by_cases e : k = m
          · subst e; omega
          · have h1 := hm k (by omega) pk
            have d1 := hD j pj; have d2 := hD m c; have d3 := hD k pk
            have a1 := Int.mul_le_mul_of_nonneg_right h1 (Int.le_of_lt d2)
            have a2 := Int.mul_le_mul_of_nonneg_right (show N m * D j ≤ N j * D m by omega) (Int.le_of_lt d3)
            refine Int.le_of_mul_le_mul_right (a := D j) ?_ d1
            grind
    · rcases ih with a | ⟨j, hj, pj, hm⟩
      · refine .inl (fun j hj => ?_)
        by_cases e : j = m
        · subst e; exact c
        · exact a j (by omega)
      · refine .inr ⟨j, by omega, pj, fun k hk pk => ?_⟩
        by_cases e : k = m
        · subst e; exact (c pk).elim
        · exact hm k (by omega) pk
/-! the row of a point: u, v lead to the ends of a side -/
/-- The side crosses the row. -/
def crosses (b d : Int) : Prop := (b < 0 ∧ 0 < d) ∨ (d < 0 ∧ 0 < b)
/-- The crossing lies N / D to the east. -/
def rowN (a b c d : Int) : Int := d.natAbs * a + b.natAbs * c
def rowD (b d : Int) : Int := b.natAbs + d.natAbs
/-- The functional of the side: what both ends have. -/
theorem rowG {a b c d : Int} (h : crosses b d) : ∃ k : Int, rowD b d * a + k * b = rowN a b c d ∧ rowD b d * c + k * d = rowN a b c d := by
  unfold rowD rowN
  rcases h with ⟨h1, h2⟩ | ⟨h1, h2⟩
  · refine ⟨a - c, ?_, ?_⟩
    · rw [show (b.natAbs : Int) = -b by omega, show (d.natAbs : Int) = d by omega]; grind
    · rw [show (b.natAbs : Int) = -b by omega, show (d.natAbs : Int) = d by omega]; grind
  · refine ⟨c - a, ?_, ?_⟩
    · rw [show (b.natAbs : Int) = b by omega, show (d.natAbs : Int) = -d by omega]; grind
    · rw [show (b.natAbs : Int) = b by omega, show (d.natAbs : Int) = -d by omega]; grind
/-- A side that does not cross the row east of the point is not counted. -/
theorem cr_row {a b c d : Int} (hb : b ≠ 0) (hd : d ≠ 0) (h : ¬ (crosses b d ∧ 0 < rowN a b c d)) : cr a b c d = 0 := by
  unfold cr cro
  by_cases h1 : b < 0
  · rw [if_pos (by unfold low; omega)]
    by_cases h2 : d < 0
    · rw [if_pos (by unfold low; omega)]
    · rw [if_neg (by unfold low; omega), if_neg]
      intro k; apply h
      refine ⟨.inl ⟨h1, by omega⟩, ?_⟩
      unfold rowN
      rw [show (b.natAbs : Int) = -b by omega, show (d.natAbs : Int) = d by omega]; grind
  · rw [if_neg (by unfold low; omega)]
    by_cases h2 : d < 0
    · rw [if_pos (by unfold low; omega), if_neg]
      intro k; apply h
      refine ⟨.inr ⟨h2, by omega⟩, ?_⟩
      unfold rowN
      rw [show (b.natAbs : Int) = b by omega, show (d.natAbs : Int) = -d by omega]; grind
    · rw [if_neg (by unfold low; omega)]
/-- Two sides apart have no crossing in common. -/
theorem sep_row {ax ay bx b_y cx cy dx dy x y : Int} (h : Sep ax ay bx b_y cx cy dx dy) (c1 : crosses (ay - y) (b_y - y)) (c2 : crosses (cy - y) (dy - y)) :
    rowN (ax - x) (ay - y) (bx - x) (b_y - y) * rowD (cy - y) (dy - y) ≠ rowN (cx - x) (cy - y) (dx - x) (dy - y) * rowD (ay - y) (b_y - y) := by
  obtain ⟨g, k, h1, h2, h3, h4⟩ := h
  intro e
  unfold rowN rowD at e
  have pos : ∀ {u v : Int}, crosses u v → 0 < (u.natAbs : Int) ∧ 0 < (v.natAbs : Int) ∧ v.natAbs * u + u.natAbs * v = 0 := by
    intro u v c
    refine ⟨by unfold crosses at c; omega, by unfold crosses at c; omega, ?_⟩
    rcases c with ⟨c, d⟩ | ⟨c, d⟩
    · rw [show (u.natAbs : Int) = -u by omega, show (v.natAbs : Int) = v by omega]; grind
    · rw [show (u.natAbs : Int) = u by omega, show (v.natAbs : Int) = -v by omega]; grind
  obtain ⟨p1, p2, p3⟩ := pos c1
  obtain ⟨q1, q2, q3⟩ := pos c2
  generalize ((ay - y).natAbs : Int) = al at *
  generalize ((b_y - y).natAbs : Int) = be at *
  generalize ((cy - y).natAbs : Int) = ga at *
  generalize ((dy - y).natAbs : Int) = de at *
  have m1 := Int.mul_pos (Int.mul_pos p2 q2) h1
  have m2 := Int.mul_pos (Int.mul_pos p2 q1) h2
  have m3 := Int.mul_pos (Int.mul_pos p1 q2) h3
  have m4 := Int.mul_pos (Int.mul_pos p1 q1) h4
  have s : be * de * (g * (cx - ax) + k * (cy - ay)) + be * ga * (g * (dx - ax) + k * (dy - ay)) + al * de * (g * (cx - bx) + k * (cy - b_y)) + al * ga * (g * (dx - bx) + k * (dy - b_y)) =
    g * ((al + be) * (de * (cx - x) + ga * (dx - x)) - (de + ga) * (be * (ax - x) + al * (bx - x))) + k * ((al + be) * (de * (cy - y) + ga * (dy - y)) - (de + ga) * (be * (ay - y) + al * (b_y - y))) := by grind
  rw [p3, q3] at s
  rw [show (al + be) * (de * (cx - x) + ga * (dx - x)) - (de + ga) * (be * (ax - x) + al * (bx - x)) = 0 by grind] at s
  simp at s
  omega
theorem nat_pos {u v : Int} (c : crosses u v) : 0 < (u.natAbs : Int) ∧ 0 < (v.natAbs : Int) ∧ v.natAbs * u + u.natAbs * v = 0 := by
  refine ⟨by unfold crosses at c; omega, by unfold crosses at c; omega, ?_⟩
  rcases c with ⟨c, d⟩ | ⟨c, d⟩
  · rw [show (u.natAbs : Int) = -u by omega, show (v.natAbs : Int) = v by omega]; grind
  · rw [show (u.natAbs : Int) = u by omega, show (v.natAbs : Int) = -v by omega]; grind
theorem fwd_row {ax ay bx b_y cx cy x y : Int} (h : Fwd (bx - ax) (b_y - ay) (cx - bx) (cy - b_y)) (c1 : crosses (ay - y) (b_y - y)) (c2 : crosses (b_y - y) (cy - y)) :
    rowN (ax - x) (ay - y) (bx - x) (b_y - y) * rowD (b_y - y) (cy - y) ≠ rowN (bx - x) (b_y - y) (cx - x) (cy - y) * rowD (ay - y) (b_y - y) := by
  obtain ⟨g, k, h1, h2⟩ := h
  intro e
  unfold rowN rowD at e
  obtain ⟨p1, p2, p3⟩ := nat_pos c1
  obtain ⟨q1, q2, q3⟩ := nat_pos c2
  generalize ((ay - y).natAbs : Int) = al at *
  generalize ((b_y - y).natAbs : Int) = be at *
  generalize ((cy - y).natAbs : Int) = ga at *
  have m1 := Int.mul_pos (Int.mul_pos (show 0 < al + be by omega) p2) h2
  have m2 := Int.mul_pos (Int.mul_pos (show 0 < be + ga by omega) p2) h1
  have s : (al + be) * be * (g * (cx - bx) + k * (cy - b_y)) + (be + ga) * be * (g * (bx - ax) + k * (b_y - ay)) =
    g * ((al + be) * (ga * (bx - x) + be * (cx - x)) - (be + ga) * (be * (ax - x) + al * (bx - x))) + k * ((al + be) * (ga * (b_y - y) + be * (cy - y)) - (be + ga) * (be * (ay - y) + al * (b_y - y))) := by grind
  rw [p3, q3, show (al + be) * (ga * (bx - x) + be * (cx - x)) - (be + ga) * (be * (ax - x) + al * (bx - x)) = 0 by grind] at s
  simp at s
  omega
section
variable (X Y : Nat → Int) (x y : Int)
def jC (j : Nat) : Prop := crosses (Y j - y) (Y (j + 1) - y)
def jN (j : Nat) : Int := rowN (X j - x) (Y j - y) (X (j + 1) - x) (Y (j + 1) - y)
def jD (j : Nat) : Int := rowD (Y j - y) (Y (j + 1) - y)
end
theorem jD_pos {Y : Nat → Int} {y : Int} {j : Nat} (h : jC Y y j) : 0 < jD Y y j := by unfold jC crosses at h; unfold jD rowD; omega
theorem jN_per {n : Nat} {X Y : Nat → Int} {x y : Int} (px : ∀ i, X (i + n) = X i) (py : ∀ i, Y (i + n) = Y i) (j : Nat) : jN X Y x y (j + n) = jN X Y x y j ∧ jD Y y (j + n) = jD Y y j ∧ (jC Y y (j + n) ↔ jC Y y j) := by
  unfold jN jD jC
  rw [show j + n + 1 = j + 1 + n by omega, px, px, py, py]
  exact ⟨rfl, rfl, Iff.rfl⟩
theorem apart {n : Nat} {X Y : Nat → Int} (h : Simple n X Y) {x y : Int} {j k : Nat} (hj : j < k) (hk : k < n) (c1 : jC Y y j) (c2 : jC Y y k) : jN X Y x y j * jD Y y k ≠ jN X Y x y k * jD Y y j := by
  have n3 := h.n3
  by_cases e : k = j + 1
  · subst e
    exact fwd_row (h.fwd j) c1 c2
  · by_cases e2 : k + 2 ≤ j + n
    · exact sep_row (h.sep j k (by omega) e2) c1 c2
    · obtain rfl : j = 0 := by omega
      obtain ⟨m, rfl⟩ : ∃ m, n = m + 1 := ⟨n - 1, by omega⟩
      obtain rfl : k = m := by omega
      have p := jN_per (x := x) (y := y) h.px h.py 0
      rw [Nat.zero_add] at p
      rw [← p.1, ← p.2.1]
      exact (fwd_row (h.fwd k) c2 (p.2.2.2 c1)).symm
theorem apart' {n : Nat} {X Y : Nat → Int} (h : Simple n X Y) {x y : Int} {j k : Nat} (hj : j < n) (hk : k < n) (hjk : j ≠ k) (c1 : jC Y y j) (c2 : jC Y y k) : jN X Y x y j * jD Y y k ≠ jN X Y x y k * jD Y y j := by
  rcases Nat.lt_or_ge j k with q | q
  · exact apart h q hk c1 c2
  · exact (apart h (by omega) hj c2 c1).symm
theorem wn_row {n : Nat} {X Y : Nat → Int} (h : Simple n X Y) {x y : Int} (hr : ∀ j, Y j ≠ y) (ho : Offs n X Y x y) : wn n X Y x y = 0 ∨ wn n X Y x y = wl n X Y 0 ∨ wn n X Y x y = wl n X Y 0 - 1 := by
  have n3 := h.n3
  rcases argmin n (fun j => jC Y y j ∧ 0 < jN X Y x y j) (jN X Y x y) (jD Y y) (fun j hj => jD_pos hj.1) with a | ⟨j, hj, ⟨cj, pj⟩, hm⟩
  · refine .inl (sm_zero (fun j _ b => ?_))
    exact cr_row (by have := hr j; omega) (by have := hr (j + 1); omega) (a j (by omega))
  · right
    have hD := jD_pos cj
    have near : ∀ k, k < n → k ≠ j → Sep (jD Y y j * x) (jD Y y j * y) (jD Y y j * x + jN X Y x y j) (jD Y y j * y) (jD Y y j * X k) (jD Y y j * Y k) (jD Y y j * X (k + 1)) (jD Y y j * Y (k + 1)) := by
      intro k hk hkj
      have y0 := hr k; have y1 := hr (k + 1)
      by_cases c : jC Y y k
      · obtain ⟨g, g1, g2⟩ := rowG (a := X k - x) (c := X (k + 1) - x) c
        have e1 : jD Y y k * (X k - x) + g * (Y k - y) = jN X Y x y k := g1
        have e2 : jD Y y k * (X (k + 1) - x) + g * (Y (k + 1) - y) = jN X Y x y k := g2
        have nz : jN X Y x y k ≠ 0 := by
          intro z
          obtain ⟨a, b, o1, o2⟩ := ho k hk
          obtain ⟨p1, p2, p3⟩ := nat_pos c
          have m1 := Int.mul_pos p2 o1
          have m2 := Int.mul_pos p1 o2
          have s : ((Y (k + 1) - y).natAbs : Int) * (a * (X k - x) + b * (Y k - y)) + ((Y k - y).natAbs : Int) * (a * (X (k + 1) - x) + b * (Y (k + 1) - y)) =
            a * jN X Y x y k + b * (((Y (k + 1) - y).natAbs : Int) * (Y k - y) + ((Y k - y).natAbs : Int) * (Y (k + 1) - y)) := by unfold jN rowN; grind
          rw [p3, z] at s
          simp at s
          omega
        rcases Int.lt_or_le 0 (jN X Y x y k) with q | q
        · have le := hm k hk ⟨c, q⟩
          have ne := apart' h hj hk (fun e => hkj e.symm) cj c (x := x)
          have m := Int.mul_pos hD q
          have cm := Int.mul_comm (jD Y y j) (jN X Y x y k)
          have cm2 := Int.mul_comm (jD Y y k) (jN X Y x y j)
          refine ⟨jD Y y k, g, ?_, ?_, ?_, ?_⟩
          · rw [scl, e1]; exact m
          · rw [scl, e2]; exact m
          · rw [show jD Y y k * (jD Y y j * X k - (jD Y y j * x + jN X Y x y j)) + g * (jD Y y j * Y k - jD Y y j * y) = jD Y y j * (jD Y y k * (X k - x) + g * (Y k - y)) - jD Y y k * jN X Y x y j by grind, e1]; omega
          · rw [show jD Y y k * (jD Y y j * X (k + 1) - (jD Y y j * x + jN X Y x y j)) + g * (jD Y y j * Y (k + 1) - jD Y y j * y) = jD Y y j * (jD Y y k * (X (k + 1) - x) + g * (Y (k + 1) - y)) - jD Y y k * jN X Y x y j by grind, e2]; omega
        · have m := Int.mul_pos hD (show 0 < -jN X Y x y k by omega)
          have m2 := Int.mul_pos (jD_pos c) pj
          refine ⟨-jD Y y k, -g, ?_, ?_, ?_, ?_⟩
          · rw [scl, show -jD Y y k * (X k - x) + -g * (Y k - y) = -(jD Y y k * (X k - x) + g * (Y k - y)) by grind, e1]; exact m
          · rw [scl, show -jD Y y k * (X (k + 1) - x) + -g * (Y (k + 1) - y) = -(jD Y y k * (X (k + 1) - x) + g * (Y (k + 1) - y)) by grind, e2]; exact m
          · rw [show -jD Y y k * (jD Y y j * X k - (jD Y y j * x + jN X Y x y j)) + -g * (jD Y y j * Y k - jD Y y j * y) = jD Y y j * -(jD Y y k * (X k - x) + g * (Y k - y)) + jD Y y k * jN X Y x y j by grind, e1]; omega
          · rw [show -jD Y y k * (jD Y y j * X (k + 1) - (jD Y y j * x + jN X Y x y j)) + -g * (jD Y y j * Y (k + 1) - jD Y y j * y) = jD Y y j * -(jD Y y k * (X (k + 1) - x) + g * (Y (k + 1) - y)) + jD Y y k * jN X Y x y j by grind, e2]; omega
      · unfold jC crosses at c
        rcases Int.lt_or_le (Y k) y with q | q
        · have m1 := Int.mul_pos hD (show 0 < y - Y k by omega)
          have m2 := Int.mul_pos hD (show 0 < y - Y (k + 1) by omega)
          exact ⟨0, -1, by grind, by grind, by grind, by grind⟩
        · have m1 := Int.mul_pos hD (show 0 < Y k - y by omega)
          have m2 := Int.mul_pos hD (show 0 < Y (k + 1) - y by omega)
          exact ⟨0, 1, by grind, by grind, by grind, by grind⟩
    obtain ⟨p1, p2, p3⟩ := nat_pos cj
    have i1 : j + (n - 1) + 1 = j + n := by omega
    have i2 : j + (n - 1) + 2 = j + 1 + n := by omega
    have w := wn_near (h.scale hD) (i := j + (n - 1)) (al := ((Y (j + 1) - y).natAbs : Int)) (be := ((Y j - y).natAbs : Int)) (cx := jD Y y j * x + jN X Y x y j) (qx := jD Y y j * x) (qy := jD Y y j * y) p2 p1
      (by
        rw [i1, i2, h.px, h.px]
        have eD : jD Y y j = ((Y j - y).natAbs : Int) + ((Y (j + 1) - y).natAbs : Int) := rfl
        have eN : jN X Y x y j = ((Y (j + 1) - y).natAbs : Int) * (X j - x) + ((Y j - y).natAbs : Int) * (X (j + 1) - x) := rfl
        rw [eN]
        grind)
      (by
        rw [i1, i2, h.py, h.py]
        have eD : jD Y y j = ((Y j - y).natAbs : Int) + ((Y (j + 1) - y).natAbs : Int) := rfl
        grind)
      (by omega)
      (by
        intro e
        exact hr _ (Int.eq_of_mul_eq_mul_left (show jD Y y j ≠ 0 by omega) e))
      (by
        intro e
        exact hr _ (Int.eq_of_mul_eq_mul_left (show jD Y y j ≠ 0 by omega) e))
      (by
        intro t ht ht2
        by_cases q : t < 2 * n
        · have := near (t - n) (by omega) (by omega)
          rw [← h.px (t - n), ← h.py (t - n), ← h.px (t - n + 1), ← h.py (t - n + 1), show t - n + 1 + n = t + 1 by omega, show t - n + n = t by omega] at this
          exact this
        · have := near (t - n - n) (by omega) (by omega)
          rw [← h.px (t - n - n), ← h.py (t - n - n), ← h.px (t - n - n + 1), ← h.py (t - n - n + 1), show t - n - n + 1 + n = t - n + 1 by omega, show t - n - n + n = t - n by omega,
            ← h.px (t - n), ← h.py (t - n), ← h.px (t - n + 1), ← h.py (t - n + 1), show t - n + 1 + n = t + 1 by omega, show t - n + n = t by omega] at this
          exact this)
    rw [wn_scale hD, wl_scale hD, wl_all h] at w
    rw [i1, i2, h.py, h.py] at w
    rcases cj with ⟨a, b⟩ | ⟨a, b⟩
    · exact .inl (w.1 (Int.mul_lt_mul_of_pos_left (by omega) hD))
    · exact .inr (w.2 (Int.mul_lt_mul_of_pos_left (by omega) hD))
/-- Off all sides, the number is that of the left of the sides, or one less, or 0. -/
theorem wn_off {n : Nat} {X Y : Nat → Int} (h : Simple n X Y) {x y : Int} (ho : Offs n X Y x y) : wn n X Y x y = 0 ∨ wn n X Y x y = wl n X Y 0 ∨ wn n X Y x y = wl n X Y 0 - 1 := by
  obtain ⟨K, h1, e, o⟩ := row_free h.px h.py ho
  have hK : 0 < K := by omega
  have := wn_row (h.scale hK) (fun j => by
    intro e
    have : K * (Y j - y) = 1 := by rw [Int.mul_sub]; omega
    have d : K ∣ 1 := ⟨_, this.symm⟩
    have := Int.le_of_dvd (by omega) d
    omega) o
  rw [e, wl_scale hK] at this
  exact this
end Go.Proofs.Ytgdhgncdpmalcaa.Geo
namespace Go.Proofs.Ytgdhgncdpmalcaa.Geo
open Go.Proofs.Ytgdhgncdpmalcaa.Pure
set_option linter.unusedVariables false
theorem sgn_pos {x : Int} (h : 0 < x) : sgn x = 1 := by unfold sgn; rw [if_neg (by omega), if_pos (by omega)]
theorem sgn_neg {x : Int} (h : x < 0) : sgn x = -1 := by unfold sgn; rw [if_pos h]
theorem sgn_zero : sgn 0 = 0 := rfl
theorem sgn_opp' (x : Int) : sgn (-x) = -sgn x := by unfold sgn; repeat' split
                                                     all_goals omega
/-- Four times the half crossing of a side, seen from a point: u and v lead to its ends. -/
def g4 (a b c d : Int) : Int := ((sgn d - sgn b).natAbs : Int) * sgn (cro a b c d)
/-- Which of four rays a direction has passed. -/
def Phi (a b : Int) : Int := if 0 < b then 0 else if b < 0 then 2 else if a < 0 then 1 else 3
theorem g4_cr {a b c d : Int} (h : Fwd a b c d) : g4 a b c d = 4 * cr a b c d + Phi c d - Phi a b := by
  obtain ⟨x, y, h1, h2⟩ := h
  have k1 : d * (x * a + y * b) - b * (x * c + y * d) = x * cro a b c d := by unfold cro; grind
  have z1 : ¬ (a = 0 ∧ b = 0) := fun ⟨p, q⟩ => by subst p; subst q; simp at h1
  have z2 : ¬ (c = 0 ∧ d = 0) := fun ⟨p, q⟩ => by subst p; subst q; simp at h2
  rcases Int.lt_trichotomy b 0 with hb | hb | hb
  · rcases Int.lt_trichotomy d 0 with hd | hd | hd
    · unfold g4 cr Phi
      rw [sgn_neg hb, sgn_neg hd, if_pos (show low a b by unfold low; omega), if_pos (show low c d by unfold low; omega), if_neg (by omega), if_pos hd, if_neg (by omega), if_pos hb]; simp
    · subst hd
      rcases Int.lt_trichotomy c 0 with hc | hc | hc
      · have m := Int.mul_pos (show 0 < -b by omega) (show 0 < -c by omega)
        have e : cro a b c 0 < 0 := by unfold cro; rw [Int.neg_mul_neg] at m; omega
        unfold g4 cr Phi
        rw [sgn_neg hb, sgn_neg e, sgn_zero, if_pos (show low a b by unfold low; omega), if_neg (show ¬ low c 0 by unfold low; omega), if_neg (by omega)]
        simp; omega
      · omega
      · have m := Int.mul_pos (show 0 < -b by omega) hc
        have e : 0 < cro a b c 0 := by unfold cro; rw [Int.neg_mul] at m; omega
        unfold g4 cr Phi
        rw [sgn_neg hb, sgn_pos e, sgn_zero, if_pos (show low a b by unfold low; omega), if_pos (show low c 0 by unfold low; omega)]
        simp; omega
    · have ne : cro a b c d ≠ 0 := fun z => by
        rw [z] at k1
        have m1 := Int.mul_pos hd h1
        have m2 := Int.mul_pos (show 0 < -b by omega) h2
        rw [Int.neg_mul] at m2; omega
      unfold g4 cr Phi
      rw [sgn_neg hb, sgn_pos hd, if_pos (show low a b by unfold low; omega), if_neg (show ¬ low c d by unfold low; omega)]
      rcases Int.lt_or_le 0 (cro a b c d) with e | e
      · rw [sgn_pos e]; simp; omega
      · rw [sgn_neg (by omega)]; simp; omega
  · subst hb
    rcases Int.lt_trichotomy d 0 with hd | hd | hd
    · rcases Int.lt_trichotomy a 0 with ha | ha | ha
      · have m := Int.mul_pos (show 0 < -a by omega) (show 0 < -d by omega)
        have e : 0 < cro a 0 c d := by unfold cro; rw [Int.neg_mul_neg] at m; omega
        unfold g4 cr Phi
        rw [sgn_neg hd, sgn_pos e, sgn_zero, if_neg (show ¬ low a 0 by unfold low; omega), if_pos (show low c d by unfold low; omega), if_neg (by omega)]
        simp; omega
      · omega
      · have m := Int.mul_pos ha (show 0 < -d by omega)
        have e : cro a 0 c d < 0 := by unfold cro; rw [Int.mul_neg] at m; omega
        unfold g4 cr Phi
        rw [sgn_neg hd, sgn_neg e, sgn_zero, if_pos (show low a 0 by unfold low; omega), if_pos (show low c d by unfold low; omega)]
        simp; omega
    · subst hd
      have e : cro a 0 c 0 = 0 := by unfold cro; simp
      simp at h1 h2
      have s : (0 < a ∧ 0 < c) ∨ (a < 0 ∧ c < 0) := by
        rcases Int.lt_trichotomy x 0 with hx | hx | hx
        · right
          constructor
          · apply Classical.byContradiction; intro k
            have := Int.mul_nonneg (show 0 ≤ -x by omega) (show 0 ≤ a by omega); rw [Int.neg_mul] at this; omega
          · apply Classical.byContradiction; intro k
            have := Int.mul_nonneg (show 0 ≤ -x by omega) (show 0 ≤ c by omega); rw [Int.neg_mul] at this; omega
        · subst hx; simp at h1
        · left
          exact ⟨pos_of_mul' h1 (Int.le_of_lt hx), pos_of_mul' h2 (Int.le_of_lt hx)⟩
      unfold g4 cr Phi
      rw [e, sgn_zero]
      rcases s with ⟨p, q⟩ | ⟨p, q⟩
      · rw [if_pos (show low a 0 by unfold low; omega), if_pos (show low c 0 by unfold low; omega)]
        simp; omega
      · rw [if_neg (show ¬ low a 0 by unfold low; omega), if_neg (show ¬ low c 0 by unfold low; omega)]
        simp; omega
    · rcases Int.lt_trichotomy a 0 with ha | ha | ha
      · have m := Int.mul_pos (show 0 < -a by omega) hd
        have e : cro a 0 c d < 0 := by unfold cro; rw [Int.neg_mul] at m; omega
        unfold g4 cr Phi
        rw [sgn_pos hd, sgn_neg e, sgn_zero, if_neg (show ¬ low a 0 by unfold low; omega), if_neg (show ¬ low c d by unfold low; omega)]
        simp; omega
      · omega
      · have m := Int.mul_pos ha hd
        have e : 0 < cro a 0 c d := by unfold cro; omega
        unfold g4 cr Phi
        rw [sgn_pos hd, sgn_pos e, sgn_zero, if_pos (show low a 0 by unfold low; omega), if_neg (show ¬ low c d by unfold low; omega), if_pos e]
        simp; omega
  · rcases Int.lt_trichotomy d 0 with hd | hd | hd
    · have ne : cro a b c d ≠ 0 := fun z => by
        rw [z] at k1
        have m1 := Int.mul_pos (show 0 < -d by omega) h1
        have m2 := Int.mul_pos hb h2
        rw [Int.neg_mul] at m1; omega
      unfold g4 cr Phi
      rw [sgn_pos hb, sgn_neg hd, if_neg (show ¬ low a b by unfold low; omega), if_pos (show low c d by unfold low; omega)]
      rcases Int.lt_or_le 0 (cro a b c d) with e | e
      · rw [sgn_pos e]; simp; omega
      · rw [sgn_neg (by omega)]; simp; omega
    · subst hd
      rcases Int.lt_trichotomy c 0 with hc | hc | hc
      · have m := Int.mul_pos hb (show 0 < -c by omega)
        have e : 0 < cro a b c 0 := by unfold cro; rw [Int.mul_neg] at m; omega
        unfold g4 cr Phi
        rw [sgn_pos hb, sgn_pos e, sgn_zero, if_neg (show ¬ low a b by unfold low; omega), if_neg (show ¬ low c 0 by unfold low; omega)]
        simp; omega
      · omega
      · have m := Int.mul_pos hb hc
        have e : cro a b c 0 < 0 := by unfold cro; omega
        unfold g4 cr Phi
        rw [sgn_pos hb, sgn_neg e, sgn_zero, if_neg (show ¬ low a b by unfold low; omega), if_pos (show low c 0 by unfold low; omega), if_pos e]
        simp; omega
    · unfold g4 cr Phi
      rw [sgn_pos hb, sgn_pos hd, if_neg (show ¬ low a b by unfold low; omega), if_neg (show ¬ low c d by unfold low; omega), if_pos hd, if_pos hb]; simp
/-! sums of a side -/
theorem sm_mul (lo k : Nat) (c : Int) (f : Nat → Int) : sm lo k (fun j => c * f j) = c * sm lo k f := by
  induction k with
  | zero => simp [sm]
  | succ k ih => simp only [sm]; rw [ih, Int.mul_add]
theorem sm_swp (a b lo lo' : Nat) (F : Nat → Nat → Int) : sm lo a (fun i => sm lo' b (F i)) = sm lo' b (fun k => sm lo a (fun i => F i k)) := by
  induction a with
  | zero => exact (sm_zero (fun _ _ _ => rfl)).symm
  | succ a ih =>
    simp only [sm]
    rw [ih, sm_add]
section
variable (ax ay bx b_y : Int)
def fc (x y : Int) : Int := sgn (cro (ax - x) (ay - y) (bx - x) (b_y - y))
def row (N : Nat) (y t : Int) : Int := sm 0 N (fun j => fc ax ay bx b_y (t + j) y)
end
theorem row_slide1 {ax ay bx b_y y t : Int} {N : Nat} (hu : ay < b_y) (h1 : ay ≤ y) (h2 : y ≤ b_y) (t1 : t < ax) (t2 : t < bx) (t3 : ax < t + N) (t4 : bx < t + N) :
    row ax ay bx b_y N y t = row ax ay bx b_y N y (t + 1) + 2 := by
  have e := sm_tele 0 N (fun j => fc ax ay bx b_y (t + j) y)
  rw [sm_sub] at e
  have e2 : sm 0 N (fun j => fc ax ay bx b_y (t + ((j + 1 : Nat) : Int)) y) = row ax ay bx b_y N y (t + 1) := sm_congr (fun j _ _ => by rw [show t + ((j + 1 : Nat) : Int) = t + 1 + j by omega])
  have pos : ∀ x, x < ax → x < bx → fc ax ay bx b_y x y = 1 := fun x q1 q2 => by
    refine sgn_pos ?_
    unfold cro
    rcases Int.lt_or_le y b_y with g | g
    · have m1 := Int.mul_pos (show 0 < ax - x by omega) (show 0 < b_y - y by omega)
      have m2 := Int.mul_nonneg (show 0 ≤ -(ay - y) by omega) (show 0 ≤ bx - x by omega)
      rw [Int.neg_mul] at m2; omega
    · have m1 := Int.mul_nonneg (show 0 ≤ ax - x by omega) (show 0 ≤ b_y - y by omega)
      have m2 := Int.mul_pos (show 0 < -(ay - y) by omega) (show 0 < bx - x by omega)
      rw [Int.neg_mul] at m2; omega
  have neg : ∀ x, ax < x → bx < x → fc ax ay bx b_y x y = -1 := fun x q1 q2 => by
    refine sgn_neg ?_
    unfold cro
    rcases Int.lt_or_le y b_y with g | g
    · have m1 := Int.mul_pos (show 0 < -(ax - x) by omega) (show 0 < b_y - y by omega)
      have m2 := Int.mul_nonneg (show 0 ≤ -(ay - y) by omega) (show 0 ≤ -(bx - x) by omega)
      rw [Int.neg_mul_neg] at m2; rw [Int.neg_mul] at m1; omega
    · have m1 := Int.mul_nonneg (show 0 ≤ -(ax - x) by omega) (show 0 ≤ b_y - y by omega)
      have m2 := Int.mul_pos (show 0 < -(ay - y) by omega) (show 0 < -(bx - x) by omega)
      rw [Int.neg_mul_neg] at m2; rw [Int.neg_mul] at m1; omega
  rw [e2, pos (t + ((0 : Nat) : Int)) (by omega) (by omega), neg (t + ((0 + N : Nat) : Int)) (by omega) (by omega)] at e
  have e3 : sm 0 N (fun j => fc ax ay bx b_y (t + (j : Int)) y) = row ax ay bx b_y N y t := rfl
  rw [e3] at e
  omega
theorem row_slide {ax ay bx b_y y t : Int} {N : Nat} (hu : ay < b_y) (h1 : ay ≤ y) (h2 : y ≤ b_y) (t3 : ax < t + N) (t4 : bx < t + N) (k : Nat) (t1 : t + k ≤ ax) (t2 : t + k ≤ bx) :
    row ax ay bx b_y N y t = row ax ay bx b_y N y (t + k) + 2 * k := by
  induction k with
  | zero => simp
  | succ k ih =>
    have e := ih (by rw [Int.natCast_add] at t1; omega) (by rw [Int.natCast_add] at t2; omega)
    have s := row_slide1 (N := N) (t := t + k) (ax := ax) (bx := bx) hu h1 h2 (by omega) (by omega) (by omega) (by omega)
    rw [show t + ((k + 1 : Nat) : Int) = t + k + 1 by omega]
    omega
theorem row_diff {ax ay bx b_y y B : Int} {M : Nat} (hu : ay < b_y) (h1 : ay ≤ y) (h2 : y ≤ b_y) (ha : -B ≤ ax ∧ ax ≤ B) (hb : -B ≤ bx ∧ bx ≤ B) (hM : 4 * B ≤ M) :
    row ax ay bx b_y (2 * M + 1) y (-M) = row ax ay bx b_y (2 * M + 1) y (ax + bx - M) + 2 * (ax + bx) := by
  rcases Int.le_total 0 (ax + bx) with q | q
  · have := row_slide (N := 2 * M + 1) (t := -M) (ax := ax) (bx := bx) hu h1 h2 (by omega) (by omega) (ax + bx).toNat (by omega) (by omega)
    rw [show -(M : Int) + ((ax + bx).toNat : Int) = ax + bx - M by omega, show ((ax + bx).toNat : Int) = ax + bx by omega] at this
    exact this
  · have := row_slide (N := 2 * M + 1) (t := ax + bx - M) (ax := ax) (bx := bx) hu h1 h2 (by omega) (by omega) (-(ax + bx)).toNat (by omega) (by omega)
    rw [show ax + bx - M + ((-(ax + bx)).toNat : Int) = -M by omega, show ((-(ax + bx)).toNat : Int) = -(ax + bx) by omega] at this
    omega
theorem row_refl {ax ay bx b_y y : Int} {M : Nat} : row ax ay bx b_y (2 * M + 1) y (-M) = -row ax ay bx b_y (2 * M + 1) (ay + b_y - y) (ax + bx - M) := by
  unfold row
  rw [← sm_neg, ← sm_rev]
  refine sm_congr (fun j _ hj => ?_)
  unfold fc
  rw [← sgn_opp']
  congr 1
  rw [show ((2 * M + 1 - 1 - j : Nat) : Int) = 2 * M - j by omega]
  unfold cro; grind
def wS (ay b_y y : Int) : Int := ((sgn (b_y - y) - sgn (ay - y)).natAbs : Int)
theorem wS_sum {ay : Int} {k : Nat} (hk : 0 < k) : sm 0 (k + 1) (fun i => wS ay (ay + k) (ay + i)) = 2 * k := by
  have e : sm 0 (k + 1) (fun i => wS ay (ay + k) (ay + i)) = sm 0 (k + 1) (fun i => (fun i : Nat => if i = 0 then (0 : Int) else if i ≤ k then 2 * i - 1 else 2 * k) (i + 1) - (fun i : Nat => if i = 0 then (0 : Int) else if i ≤ k then 2 * i - 1 else 2 * k) i) :=
    sm_congr (fun i _ hi => by
      unfold wS
      dsimp only
      rw [show ay + (k : Int) - (ay + i) = k - i by omega, show ay - (ay + (i : Int)) = -i by omega]
      by_cases c : i = 0
      · subst c
        rw [sgn_pos (by omega), if_neg (by omega), if_pos (by omega), if_pos rfl]; simp [sgn]
      · rw [sgn_neg (x := -(i : Int)) (by omega), if_neg (by omega), if_neg c]
        by_cases d : i = k
        · subst d
          rw [if_neg (by omega), if_pos (by omega), Int.sub_self, sgn_zero]; omega
        · rw [if_pos (by omega), if_pos (by omega), sgn_pos (by omega)]; omega)
  rw [e, sm_tele 0 (k + 1) (fun i : Nat => if i = 0 then (0 : Int) else if i ≤ k then 2 * i - 1 else 2 * k)]
  rw [if_neg (by omega), if_neg (by omega), if_pos rfl]
  omega
/-- The sum over the lattice from -M to M. -/
def lat (M : Nat) (F : Int → Int → Int) : Int := sm 0 (2 * M + 1) (fun i => sm 0 (2 * M + 1) (fun j => F (-M + j) (-M + i)))
def gS (ax ay bx b_y x y : Int) : Int := g4 (ax - x) (ay - y) (bx - x) (b_y - y)
theorem gS_swap (ax ay bx b_y x y : Int) : gS bx b_y ax ay x y = -gS ax ay bx b_y x y := by
  unfold gS g4
  rw [cro_swap (ax - x) (ay - y), sgn_opp', Int.mul_neg, show (sgn (ay - y) - sgn (b_y - y)).natAbs = (sgn (b_y - y) - sgn (ay - y)).natAbs by omega]
theorem lat_neg (M : Nat) (F : Int → Int → Int) : lat M (fun x y => -F x y) = -lat M F := by
  unfold lat; rw [← sm_neg]; exact sm_congr (fun i _ _ => sm_neg _ _ _)
theorem lat_up {ax ay bx b_y B : Int} {M : Nat} (hu : ay < b_y) (ha : -B ≤ ax ∧ ax ≤ B) (hb : -B ≤ bx ∧ bx ≤ B) (ha' : -B ≤ ay ∧ ay ≤ B) (hb' : -B ≤ b_y ∧ b_y ≤ B) (hM : 4 * B ≤ M) :
    lat M (gS ax ay bx b_y) = 2 * (ax + bx) * (b_y - ay) := by
  obtain ⟨k, rfl⟩ : ∃ k : Nat, b_y = ay + k := ⟨(b_y - ay).toNat, by omega⟩
  have hk : 0 < k := by omega
  obtain ⟨p, hp⟩ : ∃ p : Nat, (p : Int) = ay + M := ⟨(ay + M).toNat, by omega⟩
  have r : ∀ i, sm 0 (2 * M + 1) (fun j => gS ax ay bx (ay + k) (-M + j) (-M + i)) = wS ay (ay + k) (-M + i) * row ax ay bx (ay + k) (2 * M + 1) (-M + i) (-M) := fun i => by
    unfold row; rw [← sm_mul]; rfl
  have e0 : lat M (gS ax ay bx (ay + k)) = sm 0 (2 * M + 1) (fun i => wS ay (ay + k) (-M + i) * row ax ay bx (ay + k) (2 * M + 1) (-M + i) (-M)) := sm_congr (fun i _ _ => r i)
  rw [e0]
  obtain ⟨q, hq⟩ : ∃ q, 2 * M + 1 = p + ((k + 1) + q) := ⟨2 * M - p - k, by omega⟩
  have e1 : ∀ F : Nat → Int, (∀ i, i < p → F i = 0) → (∀ i, p + k < i → F i = 0) → sm 0 (2 * M + 1) F = sm 0 (k + 1) (fun i => F (p + i)) := by
    intro F h1 h2
    rw [hq, sm_split, sm_split, sm_zero (fun j _ hj => h1 j (by omega)), sm_zero (lo := 0 + p + (k + 1)) (fun j hj _ => h2 j (by omega)), Nat.zero_add, sm_sh]
    omega
  rw [e1 _ (fun i hi => by
      have : wS ay (ay + k) (-M + i) = 0 := by unfold wS; rw [sgn_pos (by omega), sgn_pos (by omega)]; rfl
      rw [this, Int.zero_mul]) (fun i hi => by
      have : wS ay (ay + k) (-M + i) = 0 := by unfold wS; rw [sgn_neg (by omega), sgn_neg (by omega)]; rfl
      rw [this, Int.zero_mul])]
  have e2 : ∀ i : Nat, -(M : Int) + ((p + i : Nat) : Int) = ay + i := fun i => by omega
  simp only [e2]
  have s1 : sm 0 (k + 1) (fun i => wS ay (ay + k) (ay + i) * row ax ay bx (ay + k) (2 * M + 1) (ay + i) (-M)) =
      -sm 0 (k + 1) (fun i => wS ay (ay + k) (ay + i) * row ax ay bx (ay + k) (2 * M + 1) (ay + i) (ax + bx - M)) := by
    rw [← sm_neg, ← sm_rev (k + 1) (fun i => -(wS ay (ay + k) (ay + i) * row ax ay bx (ay + k) (2 * M + 1) (ay + i) (ax + bx - M)))]
    refine sm_congr (fun i _ hi => ?_)
    have w : wS ay (ay + k) (ay + ((k + 1 - 1 - i : Nat) : Int)) = wS ay (ay + k) (ay + i) := by
      unfold wS
      rw [show ay + (k : Int) - (ay + ((k + 1 - 1 - i : Nat) : Int)) = i by omega, show ay - (ay + ((k + 1 - 1 - i : Nat) : Int)) = -(k - i) by omega, show ay + (k : Int) - (ay + i) = k - i by omega, show ay - (ay + (i : Int)) = -i by omega, sgn_opp', sgn_opp']
      omega
    rw [w, row_refl, show ay + (ay + (k : Int)) - (ay + i) = ay + ((k + 1 - 1 - i : Nat) : Int) by omega, Int.mul_neg]
  have s2 : sm 0 (k + 1) (fun i => wS ay (ay + k) (ay + i) * row ax ay bx (ay + k) (2 * M + 1) (ay + i) (-M)) =
      sm 0 (k + 1) (fun i => wS ay (ay + k) (ay + i) * row ax ay bx (ay + k) (2 * M + 1) (ay + i) (ax + bx - M)) + 2 * (ax + bx) * (2 * k) := by
    rw [← wS_sum hk, ← sm_mul, ← sm_add]
    refine sm_congr (fun i _ hi => ?_)
    rw [row_diff (B := B) (by omega) (by omega) (by omega) ha hb hM]
    rw [Int.mul_add, Int.mul_comm (2 * (ax + bx))]
  rw [show ay + (k : Int) - ay = k by omega]
  have : 2 * (ax + bx) * (2 * (k : Int)) = 2 * (2 * (ax + bx) * k) := by grind
  omega
theorem lat_side {ax ay bx b_y B : Int} {M : Nat} (ha : -B ≤ ax ∧ ax ≤ B) (hb : -B ≤ bx ∧ bx ≤ B) (ha' : -B ≤ ay ∧ ay ≤ B) (hb' : -B ≤ b_y ∧ b_y ≤ B) (hM : 4 * B ≤ M) :
    lat M (gS ax ay bx b_y) = 2 * (ax + bx) * (b_y - ay) := by
  rcases Int.lt_trichotomy ay b_y with q | q | q
  · exact lat_up q ha hb ha' hb' hM
  · subst q
    rw [Int.sub_self, Int.mul_zero]
    unfold lat
    refine sm_zero (fun i _ _ => sm_zero (fun j _ _ => ?_))
    unfold gS g4
    rw [Int.sub_self]; simp
  · have e := lat_up q hb ha hb' ha' hM
    have : lat M (gS bx b_y ax ay) = -lat M (gS ax ay bx b_y) := by
      rw [← lat_neg]
      unfold lat
      exact sm_congr (fun i _ _ => sm_congr (fun j _ _ => gS_swap _ _ _ _ _ _))
    rw [this] at e
    have : 2 * (ax + bx) * (b_y - ay) = -(2 * (bx + ax) * (ay - b_y)) := by grind
    omega
/-- Four times the half crossings of a polygon. -/
def c4 (n : Nat) (X Y : Nat → Int) (x y : Int) : Int := sm 0 n (fun j => gS (X j) (Y j) (X (j + 1)) (Y (j + 1)) x y)
def areaI (n : Nat) (X Y : Nat → Int) : Int := sm 0 n (fun i => X i * Y (i + 1) - X (i + 1) * Y i)
theorem lat_area {n : Nat} {X Y : Nat → Int} (px : X n = X 0) (py : Y n = Y 0) {B : Int} {M : Nat} (hX : ∀ i, -B ≤ X i ∧ X i ≤ B) (hY : ∀ i, -B ≤ Y i ∧ Y i ≤ B) (hM : 4 * B ≤ M) : lat M (c4 n X Y) = 2 * areaI n X Y := by
  have e : lat M (c4 n X Y) = sm 0 n (fun j => lat M (gS (X j) (Y j) (X (j + 1)) (Y (j + 1)))) := by
    unfold lat c4
    rw [← sm_swp (2 * M + 1) n 0 0 (fun i j => sm 0 (2 * M + 1) (fun t => gS (X j) (Y j) (X (j + 1)) (Y (j + 1)) (-M + t) (-M + i)))]
    exact sm_congr (fun i _ _ => sm_swp _ _ _ _ _)
  rw [e]
  have e2 : sm 0 n (fun j => lat M (gS (X j) (Y j) (X (j + 1)) (Y (j + 1)))) = sm 0 n (fun j => 2 * (X j * Y (j + 1) - X (j + 1) * Y j) + ((fun j => 2 * (X j * Y j)) (j + 1) - (fun j => 2 * (X j * Y j)) j)) :=
    sm_congr (fun j _ _ => by rw [lat_side (hX j) (hX (j + 1)) (hY j) (hY (j + 1)) hM]; grind)
  rw [e2, sm_add, sm_tele 0 n (fun j => 2 * (X j * Y j)), sm_mul, Nat.zero_add, px, py]
  unfold areaI
  omega
end Go.Proofs.Ytgdhgncdpmalcaa.Geo
namespace Go.Proofs.Ytgdhgncdpmalcaa.Geo
set_option linter.unusedVariables false
def turn (X Y : Nat → Int) (i : Nat) : Int := cr (X (i + 1) - X i) (Y (i + 1) - Y i) (X (i + 2) - X (i + 1)) (Y (i + 2) - Y (i + 1))
theorem Simple.shift {n : Nat} {X Y : Nat → Int} (h : Simple n X Y) (k : Nat) : Simple n (fun i => X (i + k)) (fun i => Y (i + k)) := by
  refine ⟨h.n3, fun i => by rw [show i + n + k = i + k + n by omega, h.px], fun i => by rw [show i + n + k = i + k + n by omega, h.py], fun i j a b => ?_, fun i => ?_⟩
  · have := h.sep (i + k) (j + k) (by omega) (by omega)
    rw [show i + k + 1 = i + 1 + k by omega, show j + k + 1 = j + 1 + k by omega] at this
    exact this
  · have := h.fwd (i + k)
    rw [show i + k + 1 = i + 1 + k by omega, show i + k + 2 = i + 2 + k by omega] at this
    exact this
/-- The secants to a corner from two corners that follow each other. -/
def back (X Y : Nat → Int) (m i : Nat) : Int := cr (X m - X i) (Y m - Y i) (X m - X (i + 1)) (Y m - Y (i + 1))
theorem turns_step {n : Nat} {X Y : Nat → Int} (h : Simple n X Y) (lo k : Nat) (hk : lo + k + 3 ≤ lo + n) (hn : lo + k + 3 ≤ n + lo) :
    sm lo (k + 1) (back X Y (lo + k + 2)) + cr (X (lo + k + 1) - X lo) (Y (lo + k + 1) - Y lo) (X (lo + k + 2) - X lo) (Y (lo + k + 2) - Y lo) =
    sm lo k (back X Y (lo + k + 1)) + turn X Y (lo + k) := by
  have c := sm_cells (lo := lo) (k := k) (f := back X Y (lo + k + 1)) (g := back X Y (lo + k + 2))
    (h := fun i => cr (X (lo + k + 1) - X i) (Y (lo + k + 1) - Y i) (X (lo + k + 2) - X i) (Y (lo + k + 2) - Y i)) (fun j a b => by
      have := cell (h.sep j (lo + k + 1) (by omega) (by omega))
      unfold back
      simp only [Nat.add_assoc, Nat.reduceAdd] at this ⊢
      omega)
  have t := tri' (h.fwd (lo + k)) (s := X (lo + k + 2) - X (lo + k)) (t := Y (lo + k + 2) - Y (lo + k)) (by omega) (by omega)
  rw [sm]
  unfold turn
  have b : back X Y (lo + k + 2) (lo + k) = cr (X (lo + k + 2) - X (lo + k)) (Y (lo + k + 2) - Y (lo + k)) (X (lo + k + 2) - X (lo + k + 1)) (Y (lo + k + 2) - Y (lo + k + 1)) := rfl
  rw [b]
  omega
theorem turns {n : Nat} {X Y : Nat → Int} (h : Simple n X Y) (k : Nat) (hk : k + 2 ≤ n) : sm 1 k (side X Y (X 0) (Y 0)) + sm 0 k (back X Y (k + 1)) = sm 0 k (turn X Y) := by
  induction k with
  | zero => rfl
  | succ k ih =>
    have e := ih (by omega)
    have s := turns_step h 0 k (by omega) (by omega)
    have e2 : sm 0 (k + 1) (turn X Y) = sm 0 k (turn X Y) + turn X Y (0 + k) := rfl
    rw [sm, e2]
    simp only [Nat.zero_add] at s ⊢
    have b : side X Y (X 0) (Y 0) (1 + k) = cr (X (k + 1) - X 0) (Y (k + 1) - Y 0) (X (k + 2) - X 0) (Y (k + 2) - Y 0) := by rw [Nat.add_comm 1 k]; rfl
    rw [b]
    have a : k + 1 + 1 = k + 2 := rfl
    rw [a]
    omega
theorem cr_high {a b c d : Int} (h1 : ¬ low a b) (h2 : ¬ low c d) : cr a b c d = 0 := by unfold cr; rw [if_neg h1, if_neg h2]
theorem cr_deep {a b c d : Int} (h1 : ¬ low a b) (h2 : ¬ low c d) : cr (-a) (-b) (-c) (-d) = 0 := by
  by_cases z1 : a = 0 ∧ b = 0
  · apply cr_zero; rw [z1.1, z1.2]; unfold cro; simp
  · by_cases z2 : c = 0 ∧ d = 0
    · apply cr_zero; rw [z2.1, z2.2]; unfold cro; simp
    · unfold cr; rw [if_pos ((low_neg z1).2 h1), if_pos ((low_neg z2).2 h2)]
theorem rot_low {n : Nat} {X Y : Nat → Int} (h : Simple n X Y) (hl : ∀ j, ¬ low (X j - X 0) (Y j - Y 0)) : sm 0 n (turn X Y) = 2 * wl n X Y 0 - 1 := by
  have n3 := h.n3
  obtain ⟨m, rfl⟩ : ∃ m, n = m + 3 := ⟨n - 3, by omega⟩
  have pX : ∀ i, X (m + 3 + i) = X i := fun i => by rw [Nat.add_comm]; exact h.px i
  have pY : ∀ i, Y (m + 3 + i) = Y i := fun i => by rw [Nat.add_comm]; exact h.py i
  have e := turns h (m + 1) (by omega)
  have s := turns_step h 1 m (by omega) (by omega)
  have a0 : sm 1 (m + 1) (side X Y (X 0) (Y 0)) = 0 := sm_zero (fun j _ _ => cr_high (hl _) (hl _))
  have b0 : sm 1 (m + 1) (back X Y (1 + m + 2)) = 0 := sm_zero (fun j _ _ => by
    unfold back
    rw [show 1 + m + 2 = m + 3 + 0 by omega, pX, pY]
    rw [show X 0 - X j = -(X j - X 0) by omega, show Y 0 - Y j = -(Y j - Y 0) by omega, show X 0 - X (j + 1) = -(X (j + 1) - X 0) by omega, show Y 0 - Y (j + 1) = -(Y (j + 1) - Y 0) by omega]
    exact cr_deep (hl _) (hl _))
  rw [a0, sm_first] at e
  rw [sm, sm]
  rw [b0] at s
  have fw := h.fwd (m + 2)
  have w := wl_all h (m + 2)
  have b1 : back X Y (m + 1 + 1) 0 = cr (X (m + 2) - X 0) (Y (m + 2) - Y 0) (X (m + 2) - X 1) (Y (m + 2) - Y 1) := rfl
  rw [b1] at e
  have q0 : X (m + 2 + 1) = X 0 := pX 0
  have q1 : Y (m + 2 + 1) = Y 0 := pY 0
  have q2 : X (m + 2 + 2) = X 1 := pX 1
  have q3 : Y (m + 2 + 2) = Y 1 := pY 1
  rw [q0, q1, q2, q3] at fw
  have o : open_ (m + 3) X Y (m + 2 + 1) = 0 := sm_zero (fun j _ _ => by unfold side; rw [q0, q1]; exact cr_high (hl _) (hl _))
  have tn : turn X Y (m + 2) = cr (X 0 - X (m + 2)) (Y 0 - Y (m + 2)) (X 1 - X 0) (Y 1 - Y 0) := by unfold turn; rw [q0, q1, q2, q3]
  have wd : wl (m + 3) X Y (m + 2) = cr (-(X 0 - X (m + 2))) (-(Y 0 - Y (m + 2))) (-(X 1 - X 0)) (-(Y 1 - Y 0)) + 1 - L (X 1 - X 0) (Y 1 - Y 0) := by
    unfold wl; rw [o, q0, q1, q2, q3]; omega
  have t := trin fw (s := X (m + 2) - X 1) (t := Y (m + 2) - Y 1) (by omega) (by omega)
  have cn := cr_neg fw
  have l0 : L (X 1 - X 0) (Y 1 - Y 0) = 0 := by unfold L; rw [if_neg (hl _)]
  have l1 : L (X 0 - X (m + 2)) (Y 0 - Y (m + 2)) = 1 := by
    unfold L; rw [if_pos]
    have ne := h.edge (m + 2)
    rw [q0, q1] at ne
    rw [show X 0 - X (m + 2) = -(X (m + 2) - X 0) by omega, show Y 0 - Y (m + 2) = -(Y (m + 2) - Y 0) by omega]
    exact (low_neg (by omega)).2 (hl _)
  have r1 : -(X 0 - X (m + 2)) = X (m + 2) - X 0 := by omega
  have r2 : -(Y 0 - Y (m + 2)) = Y (m + 2) - Y 0 := by omega
  have r3 : -(X 1 - X 0) = X 0 - X 1 := by omega
  have r4 : -(Y 1 - Y 0) = Y 0 - Y 1 := by omega
  rw [r1, r2, r3, r4] at t wd cn
  simp only [Nat.zero_add] at e s ⊢
  have s1 : 1 + m + 1 = m + 2 := by omega
  have s2 : 1 + m + 2 = m + 3 := by omega
  have s3 : 1 + m = m + 1 := by omega
  have s4 : m + 1 + 1 = m + 2 := rfl
  have q4 : X (m + 3) = X 0 := pX 0
  have q5 : Y (m + 3) = Y 0 := pY 0
  rw [s1, s2, s3, q4, q5] at s
  rw [s4] at e
  rw [tn]
  omega
theorem rot_wl {n : Nat} {X Y : Nat → Int} (h : Simple n X Y) : sm 0 n (turn X Y) = 2 * wl n X Y 0 - 1 := by
  have n3 := h.n3
  obtain ⟨m, hm, hl⟩ := lowest X Y (n - 1)
  have all : ∀ j, ¬ low (X j - X m) (Y j - Y m) := fun j => by
    rw [mod_eq' h.px j, mod_eq' h.py j]
    exact hl _ (by have := Nat.mod_lt j (show 0 < n by omega); omega)
  have e := rot_low (h.shift m) (fun j => by
    rw [show 0 + m = m by omega]; exact all (j + m))
  have w : wl n (fun i => X (i + m)) (fun i => Y (i + m)) 0 = wl n X Y m := by
    unfold wl open_
    simp only [Nat.zero_add, Nat.add_comm 1 m, Nat.add_comm 2 m]
    have : sm (1 + 1) (n - 2) (side (fun i => X (i + m)) (fun i => Y (i + m)) (X (m + 1)) (Y (m + 1))) = sm (m + 1 + 1) (n - 2) (side X Y (X (m + 1)) (Y (m + 1))) := by
      have g : ∀ (k lo : Nat) (f : Nat → Int), sm lo k (fun j => f (j + m)) = sm (m + lo) k f := by
        intro k lo f
        induction k with
        | zero => rfl
        | succ k ih => simp only [sm]; rw [ih, show lo + k + m = m + lo + k by omega]
      rw [show m + 1 + 1 = m + (1 + 1) by omega, ← g]
      refine sm_congr (fun j _ _ => ?_)
      unfold side
      dsimp only
      rw [show j + 1 + m = j + m + 1 by omega]
    rw [this]
  rw [w, wl_all h] at e
  rw [← e]
  have p : ∀ i, turn X Y (i + n) = turn X Y i := fun i => by
    unfold turn
    rw [show i + n + 1 = i + 1 + n by omega, show i + n + 2 = i + 2 + n by omega, h.px, h.py, h.px, h.py, h.px, h.py]
  rw [← sm_period p m, sm_sh]
  refine sm_congr (fun j _ _ => ?_)
  unfold turn
  dsimp only
  rw [show m + j = j + m by omega, show j + m + 1 = j + 1 + m by omega, show j + m + 2 = j + 2 + m by omega]
end Go.Proofs.Ytgdhgncdpmalcaa.Geo
namespace Go.Proofs.Ytgdhgncdpmalcaa.Geo
open Go.Proofs.Ytgdhgncdpmalcaa.Pure
set_option linter.unusedVariables false
theorem c4_part {X Y : Nat → Int} {x y : Int} (lo k : Nat) (h : ∀ j, lo ≤ j → j < lo + k → Fwd (X j - x) (Y j - y) (X (j + 1) - x) (Y (j + 1) - y)) :
    sm lo k (fun j => gS (X j) (Y j) (X (j + 1)) (Y (j + 1)) x y) = 4 * sm lo k (side X Y x y) + Phi (X (lo + k) - x) (Y (lo + k) - y) - Phi (X lo - x) (Y lo - y) := by
  have e : sm lo k (fun j => gS (X j) (Y j) (X (j + 1)) (Y (j + 1)) x y) = sm lo k (fun j => 4 * side X Y x y j + ((fun j => Phi (X j - x) (Y j - y)) (j + 1) - (fun j => Phi (X j - x) (Y j - y)) j)) :=
    sm_congr (fun j a b => by
      unfold gS side
      rw [g4_cr (h j a b)]
      dsimp only
      omega)
  rw [e, sm_add, sm_mul, sm_tele lo k (fun j => Phi (X j - x) (Y j - y))]
  omega
theorem c4_off {n : Nat} {X Y : Nat → Int} (px : ∀ i, X (i + n) = X i) (py : ∀ i, Y (i + n) = Y i) {x y : Int} (ho : Offs n X Y x y) : c4 n X Y x y = 4 * wn n X Y x y := by
  have e := c4_part (X := X) (Y := Y) (x := x) (y := y) 0 n (fun j _ b => ho j (by omega))
  have p0 := px 0; have p1 := py 0
  rw [Nat.zero_add] at p0 p1
  rw [Nat.zero_add, p0, p1] at e
  unfold c4 wn
  omega
theorem gS_per {n : Nat} {X Y : Nat → Int} (px : ∀ i, X (i + n) = X i) (py : ∀ i, Y (i + n) = Y i) (x y : Int) (j : Nat) : gS (X (j + n)) (Y (j + n)) (X (j + n + 1)) (Y (j + n + 1)) x y = gS (X j) (Y j) (X (j + 1)) (Y (j + 1)) x y := by
  rw [show j + n + 1 = j + 1 + n by omega, px, py, px, py]
theorem c4_from {n : Nat} {X Y : Nat → Int} (px : ∀ i, X (i + n) = X i) (py : ∀ i, Y (i + n) = Y i) (x y : Int) (lo : Nat) : c4 n X Y x y = sm lo n (fun j => gS (X j) (Y j) (X (j + 1)) (Y (j + 1)) x y) :=
  (sm_period (gS_per px py x y) lo).symm
theorem gS_zero {ax ay bx b_y x y : Int} (h : cro (ax - x) (ay - y) (bx - x) (b_y - y) = 0) : gS ax ay bx b_y x y = 0 := by unfold gS g4; rw [h, sgn_zero, Int.mul_zero]
/-- At a corner. -/
theorem c4_at {n : Nat} {X Y : Nat → Int} (h : Simple n X Y) (i : Nat) : c4 n X Y (X (i + 1)) (Y (i + 1)) = 4 * open_ n X Y (i + 1) + Phi (-(X (i + 1) - X i)) (-(Y (i + 1) - Y i)) - Phi (X (i + 2) - X (i + 1)) (Y (i + 2) - Y (i + 1)) := by
  have n3 := h.n3
  obtain ⟨m, rfl⟩ : ∃ m, n = m + 3 := ⟨n - 3, by omega⟩
  rw [c4_from h.px h.py _ _ (i + 1), sm_first, sm]
  have z1 : gS (X (i + 1)) (Y (i + 1)) (X (i + 1 + 1)) (Y (i + 1 + 1)) (X (i + 1)) (Y (i + 1)) = 0 := gS_zero (by rw [Int.sub_self, Int.sub_self]; unfold cro; simp)
  have q0 : X (i + 1 + 1 + (m + 1)) = X i := by rw [show i + 1 + 1 + (m + 1) = i + (m + 3) by omega]; exact h.px i
  have q1 : Y (i + 1 + 1 + (m + 1)) = Y i := by rw [show i + 1 + 1 + (m + 1) = i + (m + 3) by omega]; exact h.py i
  have q2 : X (i + 1 + 1 + (m + 1) + 1) = X (i + 1) := by rw [show i + 1 + 1 + (m + 1) + 1 = i + 1 + (m + 3) by omega]; exact h.px _
  have q3 : Y (i + 1 + 1 + (m + 1) + 1) = Y (i + 1) := by rw [show i + 1 + 1 + (m + 1) + 1 = i + 1 + (m + 3) by omega]; exact h.py _
  have z2 : gS (X (i + 1 + 1 + (m + 1))) (Y (i + 1 + 1 + (m + 1))) (X (i + 1 + 1 + (m + 1) + 1)) (Y (i + 1 + 1 + (m + 1) + 1)) (X (i + 1)) (Y (i + 1)) = 0 :=
    gS_zero (by rw [q2, q3, Int.sub_self, Int.sub_self]; unfold cro; simp)
  rw [z1, z2]
  have e := c4_part (X := X) (Y := Y) (x := X (i + 1)) (y := Y (i + 1)) (i + 1 + 1) (m + 1) (fun j a b => by
    by_cases c : j = i + 2
    · subst c
      obtain ⟨g, k, h1, h2⟩ := h.fwd (i + 1)
      simp only [Nat.add_assoc, Nat.reduceAdd] at h1 h2 ⊢
      exact ⟨g, k, h1, by rw [show g * (X (i + 3) - X (i + 1)) + k * (Y (i + 3) - Y (i + 1)) = (g * (X (i + 2) - X (i + 1)) + k * (Y (i + 2) - Y (i + 1))) + (g * (X (i + 3) - X (i + 2)) + k * (Y (i + 3) - Y (i + 2))) by grind]; omega⟩
    · obtain ⟨g, k, h1, h2, _, _⟩ := h.sep (i + 1) j (by omega) (by omega)
      exact ⟨g, k, h1, h2⟩)
  rw [q0, q1] at e
  rw [e]
  have o : open_ (m + 3) X Y (i + 1) = sm (i + 1 + 1) (m + 1) (side X Y (X (i + 1)) (Y (i + 1))) := rfl
  rw [o, show X i - X (i + 1) = -(X (i + 1) - X i) by omega, show Y i - Y (i + 1) = -(Y (i + 1) - Y i) by omega]
  simp only [Nat.add_assoc, Nat.reduceAdd]
  omega
theorem phi_neg {a b : Int} (h : ¬ (a = 0 ∧ b = 0)) : 4 * L a b + Phi (-a) (-b) = 2 + Phi a b := by
  unfold L low Phi
  repeat' split
  all_goals omega
theorem c4_corners {n : Nat} {X Y : Nat → Int} (h : Simple n X Y) : sm 0 n (fun i => c4 n X Y (X i) (Y i)) = (2 * wl n X Y 0 - 1) * (2 * n - 4) := by
  have e1 : sm 0 n (fun i => c4 n X Y (X i) (Y i)) = sm 0 n (fun i => c4 n X Y (X (i + 1)) (Y (i + 1))) := by
    rw [← sm_period (n := n) (f := fun i => c4 n X Y (X i) (Y i)) (fun i => by rw [h.px, h.py]) 1, sm_sh]
    exact sm_congr (fun j _ _ => by rw [Nat.add_comm 1 j])
  have e2 : sm 0 n (fun i => c4 n X Y (X (i + 1)) (Y (i + 1))) = sm 0 n (fun i => (4 * wl n X Y 0 - 2) + (-4 * turn X Y i + -((fun i => Phi (X (i + 1) - X i) (Y (i + 1) - Y i)) (i + 1) - (fun i => Phi (X (i + 1) - X i) (Y (i + 1) - Y i)) i))) :=
    sm_congr (fun i _ _ => by
      rw [c4_at h i]
      have w := wl_all h i
      have c := cr_neg (h.fwd i)
      have p := phi_neg (h.edge i)
      have w2 : wl n X Y i = open_ n X Y (i + 1) + cr (-(X (i + 1) - X i)) (-(Y (i + 1) - Y i)) (-(X (i + 2) - X (i + 1))) (-(Y (i + 2) - Y (i + 1))) + 1 - L (X (i + 2) - X (i + 1)) (Y (i + 2) - Y (i + 1)) := rfl
      unfold turn
      dsimp only
      simp only [Nat.add_assoc, Nat.reduceAdd]
      omega)
  have e3 : sm 0 n (fun i => 4 * wl n X Y 0 - 2) = (4 * wl n X Y 0 - 2) * n := by
    have : ∀ (k : Nat) (c : Int), sm 0 k (fun _ => c) = c * k := by
      intro k c
      induction k with
      | zero => simp [sm]
      | succ k ih => rw [sm, ih, Int.natCast_add, Int.mul_add]; simp
    exact this _ _
  have e4 : X (0 + n) = X 0 ∧ Y (0 + n) = Y 0 ∧ X (0 + n + 1) = X 1 ∧ Y (0 + n + 1) = Y 1 := by
    refine ⟨h.px 0, h.py 0, ?_, ?_⟩
    · rw [show 0 + n + 1 = 1 + n by omega]; exact h.px 1
    · rw [show 0 + n + 1 = 1 + n by omega]; exact h.py 1
  rw [e1, e2, sm_add, sm_add, e3, sm_mul, sm_neg, sm_tele 0 n (fun i => Phi (X (i + 1) - X i) (Y (i + 1) - Y i)), rot_wl h]
  rw [e4.1, e4.2.1, e4.2.2.1, e4.2.2.2, Nat.zero_add]
  grind
theorem phi_same {k m a b a' b' : Int} (hk : 0 < k) (hm : 0 < m) (h1 : k * a' = m * a) (h2 : k * b' = m * b) : Phi a' b' = Phi a b := by
  have s1 := sign_scale (k := k) (x := a') hk; have s2 := sign_scale (k := k) (x := b') hk
  have s3 := sign_scale (k := m) (x := a) hm; have s4 := sign_scale (k := m) (x := b) hm
  rw [h1] at s1; rw [h2] at s2
  unfold Phi
  have p1 : (0 < b') ↔ 0 < b := by rw [← s2.1, s4.1]
  have p2 : (b' < 0) ↔ b < 0 := by rw [← s2.2, s4.2]
  have p3 : (a' < 0) ↔ a < 0 := by rw [← s1.2, s3.2]
  simp only [p1, p2, p3]
/-- Inside a side. -/
theorem c4_in {n : Nat} {X Y : Nat → Int} (h : Simple n X Y) {i : Nat} {al be cx cy : Int} (ha : 0 < al) (hb : 0 < be)
    (hx : (al + be) * cx = al * X (i + 1) + be * X (i + 2)) (hy : (al + be) * cy = al * Y (i + 1) + be * Y (i + 2)) : c4 n X Y cx cy = 2 * (2 * wl n X Y 0 - 1) := by
  have n3 := h.n3
  have r := rest_eq h ha hb hx hy
  rw [wl_all h] at r
  obtain ⟨m, rfl⟩ : ∃ m, n = m + 3 := ⟨n - 3, by omega⟩
  rw [c4_from h.px h.py _ _ (i + 1), sm_first]
  have z1 : gS (X (i + 1)) (Y (i + 1)) (X (i + 1 + 1)) (Y (i + 1 + 1)) cx cy = 0 := gS_zero (by
    unfold cro
    have : (al + be) * ((X (i + 1) - cx) * (Y (i + 2) - cy) - (Y (i + 1) - cy) * (X (i + 2) - cx)) = 0 := by grind
    rcases Int.mul_eq_zero.1 this with q | q
    · omega
    · exact q)
  rw [z1]
  have e := c4_part (X := X) (Y := Y) (x := cx) (y := cy) (i + 1 + 1) (m + 2) (fun j a b => by
    by_cases c : j = i + 2
    · subst c
      obtain ⟨g, k, h1, h2⟩ := h.fwd (i + 1)
      simp only [Nat.add_assoc, Nat.reduceAdd] at h1 h2 ⊢
      have s1 : g * (X (i + 3) - X (i + 1)) + k * (Y (i + 3) - Y (i + 1)) = (g * (X (i + 2) - X (i + 1)) + k * (Y (i + 2) - Y (i + 1))) + (g * (X (i + 3) - X (i + 2)) + k * (Y (i + 3) - Y (i + 2))) := by grind
      exact ⟨g, k, mid_pos ha hb hx hy h1 (by simp), mid_pos ha hb hx hy (by omega) (by omega)⟩
    · by_cases d : j = i + (m + 3)
      · subst d
        obtain ⟨g, k, h1, h2⟩ := (h.fwd i).neg
        rw [show i + (m + 3) + 1 = i + 1 + (m + 3) by omega, h.px, h.py, h.px, h.py]
        have hx' : (be + al) * cx = be * X (i + 2) + al * X (i + 1) := by rw [Int.add_comm be al, hx]; omega
        have hy' : (be + al) * cy = be * Y (i + 2) + al * Y (i + 1) := by rw [Int.add_comm be al, hy]; omega
        have s1 : g * (X i - X (i + 2)) + k * (Y i - Y (i + 2)) = (g * -(X (i + 1) - X i) + k * -(Y (i + 1) - Y i)) + (g * -(X (i + 2) - X (i + 1)) + k * -(Y (i + 2) - Y (i + 1))) := by grind
        have s2 : g * (X i - X (i + 1)) + k * (Y i - Y (i + 1)) = g * -(X (i + 1) - X i) + k * -(Y (i + 1) - Y i) := by grind
        have s3 : g * (X (i + 1) - X (i + 2)) + k * (Y (i + 1) - Y (i + 2)) = g * -(X (i + 2) - X (i + 1)) + k * -(Y (i + 2) - Y (i + 1)) := by grind
        exact ⟨g, k, mid_pos hb ha hx' hy' (by omega) (by omega), mid_pos hb ha hx' hy' (by omega) (by simp)⟩
      · obtain ⟨g, k, h1, h2, h3, h4⟩ := h.sep (i + 1) j (by omega) (by omega)
        exact ⟨g, k, mid_pos ha hb hx hy h1 (Int.le_of_lt h3), mid_pos ha hb hx hy h2 (Int.le_of_lt h4)⟩)
  have q0 : X (i + 1 + 1 + (m + 2)) = X (i + 1) := by rw [show i + 1 + 1 + (m + 2) = i + 1 + (m + 3) by omega]; exact h.px _
  have q1 : Y (i + 1 + 1 + (m + 2)) = Y (i + 1) := by rw [show i + 1 + 1 + (m + 2) = i + 1 + (m + 3) by omega]; exact h.py _
  rw [q0, q1] at e
  have rd : rest (m + 3) X Y i cx cy = sm (i + 1 + 1) (m + 2) (side X Y cx cy) := rfl
  rw [← rd] at e
  have p1 : Phi (X (i + 1) - cx) (Y (i + 1) - cy) = Phi (-(X (i + 2) - X (i + 1))) (-(Y (i + 2) - Y (i + 1))) := phi_same (k := al + be) (m := be) (by omega) hb (by grind) (by grind)
  have p2 : Phi (X (i + 1 + 1) - cx) (Y (i + 1 + 1) - cy) = Phi (X (i + 2) - X (i + 1)) (Y (i + 2) - Y (i + 1)) := phi_same (k := al + be) (m := al) (by omega) ha (by grind) (by grind)
  rw [p1, p2] at e
  have p := phi_neg (h.edge (i + 1))
  simp only [Nat.add_assoc, Nat.reduceAdd] at p e ⊢
  rw [e]
  omega
end Go.Proofs.Ytgdhgncdpmalcaa.Geo
namespace Go.Proofs.Ytgdhgncdpmalcaa.Geo
open Go.Proofs.Ytgdhgncdpmalcaa.Pure
set_option linter.unusedVariables false
open Classical in
/-- 1 for a point on a side. -/
noncomputable def onI (n : Nat) (X Y : Nat → Int) (x y : Int) : Int := if ∃ j, j < n ∧ onP (X j) (Y j) (X (j + 1)) (Y (j + 1)) x y then 1 else 0
open Classical in
/-- 1 for a point inside. -/
noncomputable def inI (n : Nat) (X Y : Nat → Int) (x y : Int) : Int := if (∃ j, j < n ∧ onP (X j) (Y j) (X (j + 1)) (Y (j + 1)) x y) ∨ wn n X Y x y = 0 then 0 else 1
/-- A point on a segment divides it. -/
theorem on_div {ax ay bx b_y x y : Int} (h : ¬ (bx = ax ∧ b_y = ay)) (ho : onP ax ay bx b_y x y) :
    ∃ al be : Int, 0 ≤ al ∧ 0 ≤ be ∧ 0 < al + be ∧ (al + be) * x = al * ax + be * bx ∧ (al + be) * y = al * ay + be * b_y := by
  have hD := norm_pos (p := bx - ax) (q := b_y - ay) (by omega)
  obtain ⟨c, h1, h2, h3, h4⟩ := ho
  unfold crs at c
  have pr : ∀ {p r : Int}, min 0 p ≤ r → r ≤ max 0 p → 0 ≤ p * r ∧ p * r ≤ p * p := by
    intro p r a b
    rcases Int.le_total 0 p with q | q
    · have m1 := Int.mul_nonneg q (show 0 ≤ r by omega)
      have m2 := Int.mul_le_mul_of_nonneg_left (show r ≤ p by omega) q
      exact ⟨m1, m2⟩
    · have m1 := Int.mul_nonneg (show 0 ≤ -p by omega) (show 0 ≤ -r by omega)
      have m2 := Int.mul_le_mul_of_nonneg_left (show -r ≤ -p by omega) (show 0 ≤ -p by omega)
      rw [Int.neg_mul_neg] at m1; rw [Int.neg_mul_neg, Int.neg_mul_neg] at m2
      exact ⟨m1, m2⟩
  have p1 := pr (p := bx - ax) (r := x - ax) (by omega) (by omega)
  have p2 := pr (p := b_y - ay) (r := y - ay) (by omega) (by omega)
  refine ⟨((bx - ax) * (bx - ax) + (b_y - ay) * (b_y - ay)) - ((bx - ax) * (x - ax) + (b_y - ay) * (y - ay)), (bx - ax) * (x - ax) + (b_y - ay) * (y - ay), by omega, by omega, by omega, ?_, ?_⟩
  · have : (b_y - ay) * ((bx - ax) * (y - ay) - (b_y - ay) * (x - ax)) = 0 := by rw [c]; simp
    grind
  · have : (bx - ax) * ((bx - ax) * (y - ay) - (b_y - ay) * (x - ax)) = 0 := by rw [c]; simp
    grind
theorem sep_on {ax ay bx b_y cx cy dx dy x y : Int} (h : Sep ax ay bx b_y cx cy dx dy) (n1 : ¬ (bx = ax ∧ b_y = ay)) (n2 : ¬ (dx = cx ∧ dy = cy)) (o1 : onP ax ay bx b_y x y) (o2 : onP cx cy dx dy x y) : False := by
  obtain ⟨g, k, h1, h2, h3, h4⟩ := h
  obtain ⟨al, be, a0, a1, a2, a3, a4⟩ := on_div n1 o1
  obtain ⟨ga, de, b0, b1, b2, b3, b4⟩ := on_div n2 o2
  have s : al * ga * (g * (cx - ax) + k * (cy - ay)) + al * de * (g * (dx - ax) + k * (dy - ay)) + be * ga * (g * (cx - bx) + k * (cy - b_y)) + be * de * (g * (dx - bx) + k * (dy - b_y)) =
    g * ((al + be) * (ga * cx + de * dx) - (ga + de) * (al * ax + be * bx)) + k * ((al + be) * (ga * cy + de * dy) - (ga + de) * (al * ay + be * b_y)) := by grind
  rw [← a3, ← a4, ← b3, ← b4, show (al + be) * ((ga + de) * x) - (ga + de) * ((al + be) * x) = 0 by grind, show (al + be) * ((ga + de) * y) - (ga + de) * ((al + be) * y) = 0 by grind] at s
  have m1 := Int.mul_nonneg (Int.mul_nonneg a0 b0) (Int.le_of_lt h1)
  have m2 := Int.mul_nonneg (Int.mul_nonneg a0 b1) (Int.le_of_lt h2)
  have m3 := Int.mul_nonneg (Int.mul_nonneg a1 b0) (Int.le_of_lt h3)
  have m4 := Int.mul_nonneg (Int.mul_nonneg a1 b1) (Int.le_of_lt h4)
  have st : ∀ {u v w : Int}, 0 ≤ u → 0 ≤ v → 0 < w → u * v * w = 0 → u = 0 ∨ v = 0 := by
    intro u v w hu hv hw e
    rcases Int.mul_eq_zero.1 e with q | q
    · exact Int.mul_eq_zero.1 q
    · omega
  simp at s
  have z1 := st a0 b0 h1 (by omega)
  have z2 := st a0 b1 h2 (by omega)
  have z3 := st a1 b0 h3 (by omega)
  have z4 := st a1 b1 h4 (by omega)
  omega
/-- A point on two sides that follow each other is their corner. -/
theorem fwd_on {ax ay bx b_y cx cy x y : Int} (h : Fwd (bx - ax) (b_y - ay) (cx - bx) (cy - b_y)) (n1 : ¬ (bx = ax ∧ b_y = ay)) (n2 : ¬ (cx = bx ∧ cy = b_y)) (o1 : onP ax ay bx b_y x y) (o2 : onP bx b_y cx cy x y) : x = bx ∧ y = b_y := by
  obtain ⟨g, k, h1, h2⟩ := h
  obtain ⟨al, be, a0, a1, a2, a3, a4⟩ := on_div n1 o1
  obtain ⟨ga, de, b0, b1, b2, b3, b4⟩ := on_div n2 o2
  have e1 : (al + be) * (x - bx) = -(al * (bx - ax)) := by grind
  have e2 : (al + be) * (y - b_y) = -(al * (b_y - ay)) := by grind
  have e3 : (ga + de) * (x - bx) = de * (cx - bx) := by grind
  have e4 : (ga + de) * (y - b_y) = de * (cy - b_y) := by grind
  have s : (ga + de) * (al * (g * (bx - ax) + k * (b_y - ay))) + (al + be) * (de * (g * (cx - bx) + k * (cy - b_y))) = 0 := by
    have : (ga + de) * (al * (g * (bx - ax) + k * (b_y - ay))) + (al + be) * (de * (g * (cx - bx) + k * (cy - b_y))) =
      g * ((ga + de) * (al * (bx - ax)) + (al + be) * (de * (cx - bx))) + k * ((ga + de) * (al * (b_y - ay)) + (al + be) * (de * (cy - b_y))) := by grind
    rw [this, ← e3, ← e4, show al * (bx - ax) = -((al + be) * (x - bx)) by omega, show al * (b_y - ay) = -((al + be) * (y - b_y)) by omega]
    grind
  have m1 := Int.mul_nonneg (Int.le_of_lt b2) (Int.mul_nonneg a0 (Int.le_of_lt h1))
  have m2 := Int.mul_nonneg (Int.le_of_lt a2) (Int.mul_nonneg b1 (Int.le_of_lt h2))
  have z : (al + be) * (de * (g * (cx - bx) + k * (cy - b_y))) = 0 := by omega
  have dz : de = 0 := by
    rcases Int.mul_eq_zero.1 z with q | q
    · omega
    · rcases Int.mul_eq_zero.1 q with r | r <;> omega
  rw [dz, Int.zero_mul] at e3 e4
  constructor
  · rcases Int.mul_eq_zero.1 e3 with q | q <;> omega
  · rcases Int.mul_eq_zero.1 e4 with q | q <;> omega
/-! sums over the lattice -/
theorem lat_add (M : Nat) (F G : Int → Int → Int) : lat M (fun x y => F x y + G x y) = lat M F + lat M G := by
  unfold lat; rw [← sm_add]; exact sm_congr (fun i _ _ => sm_add _ _ _ _)
theorem lat_mul (M : Nat) (c : Int) (F : Int → Int → Int) : lat M (fun x y => c * F x y) = c * lat M F := by
  unfold lat; rw [← sm_mul]; exact sm_congr (fun i _ _ => sm_mul _ _ _ _)
theorem lat_congr {M : Nat} {F G : Int → Int → Int} (h : ∀ x y, -(M : Int) ≤ x → x ≤ M → -(M : Int) ≤ y → y ≤ M → F x y = G x y) : lat M F = lat M G :=
  sm_congr (fun i _ _ => sm_congr (fun j _ _ => h _ _ (by omega) (by omega) (by omega) (by omega)))
theorem lat_sm (M n : Nat) (F : Nat → Int → Int → Int) : lat M (fun x y => sm 0 n (fun j => F j x y)) = sm 0 n (fun j => lat M (F j)) := by
  unfold lat
  rw [← sm_swp (2 * M + 1) n 0 0 (fun i j => sm 0 (2 * M + 1) (fun t => F j (-M + t) (-M + i)))]
  exact sm_congr (fun i _ _ => sm_swp _ _ _ _ _)
theorem sm_delta (N p : Nat) (c : Int) : sm 0 N (fun j => if j = p then c else 0) = if p < N then c else 0 := by
  induction N with
  | zero => rw [if_neg (by omega)]; rfl
  | succ N ih =>
    rw [sm, ih, Nat.zero_add]
    by_cases e : N = p
    · rw [if_pos e, if_neg (by omega), if_pos (by omega)]; omega
    · rw [if_neg e]
      by_cases q : p < N
      · rw [if_pos q, if_pos (by omega)]; omega
      · rw [if_neg q, if_neg (by omega)]; rfl
def del (a b c x y : Int) : Int := if x = a ∧ y = b then c else 0
theorem lat_del {M : Nat} {a b c : Int} (ha : -(M : Int) ≤ a ∧ a ≤ M) (hb : -(M : Int) ≤ b ∧ b ≤ M) : lat M (del a b c) = c := by
  obtain ⟨p, hp⟩ : ∃ p : Nat, (p : Int) = a + M := ⟨(a + M).toNat, by omega⟩
  obtain ⟨q, hq⟩ : ∃ q : Nat, (q : Int) = b + M := ⟨(b + M).toNat, by omega⟩
  have r : ∀ i : Nat, sm 0 (2 * M + 1) (fun j => del a b c (-M + j) (-M + i)) = if i = q then c else 0 := fun i => by
    by_cases e : i = q
    · rw [if_pos e]
      have : sm 0 (2 * M + 1) (fun j => del a b c (-M + j) (-M + i)) = sm 0 (2 * M + 1) (fun j => if j = p then c else 0) := sm_congr (fun j _ _ => by
        unfold del
        by_cases e2 : j = p
        · rw [if_pos e2, if_pos (by omega)]
        · rw [if_neg e2, if_neg (by omega)])
      rw [this, sm_delta, if_pos (by omega)]
    · rw [if_neg e]
      exact sm_zero (fun j _ _ => by unfold del; rw [if_neg (by omega)])
  unfold lat
  rw [sm_congr (fun i _ _ => r i), sm_delta, if_pos (by omega)]
/-! Pick's law -/
theorem offs_not {n : Nat} {X Y : Nat → Int} (h : Simple n X Y) {x y : Int} (ho : ¬ ∃ j, j < n ∧ onP (X j) (Y j) (X (j + 1)) (Y (j + 1)) x y) : Offs n X Y x y :=
  offs_of (fun j => by have := h.edge j; omega) (fun j hj c => ho ⟨j, hj, c⟩)
theorem onP_beg {a b c d : Int} : onP a b c d a b := by unfold onP crs; refine ⟨by grind, ?_⟩; omega
theorem c4_point {n : Nat} {X Y : Nat → Int} (h : Simple n X Y) (hd : ∀ i j, i < n → j < n → X i = X j → Y i = Y j → i = j) (x y : Int) :
    c4 n X Y x y = (2 * wl n X Y 0 - 1) * (4 * inI n X Y x y + 2 * onI n X Y x y) + sm 0 n (fun j => del (X j) (Y j) (c4 n X Y (X j) (Y j) - 2 * (2 * wl n X Y 0 - 1)) x y) := by
  have n3 := h.n3
  by_cases ho : ∃ j, j < n ∧ onP (X j) (Y j) (X (j + 1)) (Y (j + 1)) x y
  · have i0 : inI n X Y x y = 0 := by unfold inI; rw [if_pos (.inl ho)]
    have o1 : onI n X Y x y = 1 := by unfold onI; rw [if_pos ho]
    rw [i0, o1]
    by_cases hv : ∃ j, j < n ∧ x = X j ∧ y = Y j
    · obtain ⟨j, hj, rfl, rfl⟩ := hv
      have e : sm 0 n (fun k => del (X k) (Y k) (c4 n X Y (X k) (Y k) - 2 * (2 * wl n X Y 0 - 1)) (X j) (Y j)) = sm 0 n (fun k => if k = j then c4 n X Y (X j) (Y j) - 2 * (2 * wl n X Y 0 - 1) else 0) :=
        sm_congr (fun k _ hk => by
          unfold del
          by_cases q : k = j
          · subst q; rw [if_pos ⟨rfl, rfl⟩, if_pos rfl]
          · rw [if_neg (fun c => q (hd j k hj (by omega) c.1 c.2).symm), if_neg q])
      rw [e, sm_delta, if_pos hj]
      omega
    · have e : sm 0 n (fun k => del (X k) (Y k) (c4 n X Y (X k) (Y k) - 2 * (2 * wl n X Y 0 - 1)) x y) = 0 := sm_zero (fun k _ hk => by
        unfold del; rw [if_neg (fun c => hv ⟨k, by omega, c⟩)])
      rw [e]
      obtain ⟨j, hj, o⟩ := ho
      have ed := h.edge j
      obtain ⟨al, be, a0, a1, a2, a3, a4⟩ := on_div (by omega) o
      have i1 : j + (n - 1) + 1 = j + n := by omega
      have i2 : j + (n - 1) + 2 = j + 1 + n := by omega
      have can : ∀ {k u v : Int}, 0 < k → k * u = k * v → u = v := fun {k u v} hk e => Int.eq_of_mul_eq_mul_left (by omega) e
      have pa : 0 < al := by
        apply Classical.byContradiction; intro c
        obtain rfl : al = 0 := by omega
        simp only [Int.zero_add, Int.zero_mul] at a2 a3 a4
        have e1 := can a2 a3; have e2 := can a2 a4
        by_cases q : j + 1 < n
        · exact hv ⟨j + 1, q, e1, e2⟩
        · have p0 := h.px 0; have p1 := h.py 0
          rw [Nat.zero_add] at p0 p1
          rw [show j + 1 = n by omega, p0] at e1
          rw [show j + 1 = n by omega, p1] at e2
          exact hv ⟨0, by omega, e1, e2⟩
      have pb : 0 < be := by
        apply Classical.byContradiction; intro c
        obtain rfl : be = 0 := by omega
        simp only [Int.add_zero, Int.zero_mul] at a2 a3 a4
        exact hv ⟨j, hj, can a2 a3, can a2 a4⟩
      have := c4_in h (i := j + (n - 1)) (al := al) (be := be) (cx := x) (cy := y) pa pb (by rw [i1, i2, h.px, h.px]; exact a3) (by rw [i1, i2, h.py, h.py]; exact a4)
      rw [this]; omega
  · have off := offs_not h ho
    have e : sm 0 n (fun k => del (X k) (Y k) (c4 n X Y (X k) (Y k) - 2 * (2 * wl n X Y 0 - 1)) x y) = 0 := sm_zero (fun k _ hk => by
      unfold del; rw [if_neg (fun c => ho ⟨k, by omega, by rw [c.1, c.2]; exact onP_beg⟩)])
    have o1 : onI n X Y x y = 0 := by unfold onI; rw [if_neg ho]
    rw [e, o1, c4_off h.px h.py off]
    unfold inI
    have w1 := wn_off h off
    have w2 := wl_01 h
    by_cases z : wn n X Y x y = 0
    · rw [if_pos (.inr z), z]; simp
    · rw [if_neg (fun c => c.elim ho z)]
      rcases w2 with w2 | w2 <;> rw [w2] at w1 ⊢ <;> omega
theorem pick {n : Nat} {X Y : Nat → Int} (h : Simple n X Y) (hd : ∀ i j, i < n → j < n → X i = X j → Y i = Y j → i = j) {B : Int} {M : Nat} (hB : 0 ≤ B) (hX : ∀ i, -B ≤ X i ∧ X i ≤ B) (hY : ∀ i, -B ≤ Y i ∧ Y i ≤ B) (hM : 4 * B ≤ M) :
    areaI n X Y = (2 * wl n X Y 0 - 1) * (2 * lat M (inI n X Y) + lat M (onI n X Y) - 2) := by
  have p0 := h.px 0; have p1 := h.py 0
  rw [Nat.zero_add] at p0 p1
  have e := lat_area (n := n) p0 p1 hX hY hM
  have e2 : lat M (c4 n X Y) = lat M (fun x y => (2 * wl n X Y 0 - 1) * (4 * inI n X Y x y + 2 * onI n X Y x y) + sm 0 n (fun j => del (X j) (Y j) (c4 n X Y (X j) (Y j) - 2 * (2 * wl n X Y 0 - 1)) x y)) :=
    lat_congr (fun x y _ _ _ _ => c4_point h hd x y)
  rw [e2, lat_add, lat_mul, lat_add, lat_mul, lat_mul, lat_sm] at e
  have e3 : sm 0 n (fun j => lat M (del (X j) (Y j) (c4 n X Y (X j) (Y j) - 2 * (2 * wl n X Y 0 - 1)))) = sm 0 n (fun j => c4 n X Y (X j) (Y j) - 2 * (2 * wl n X Y 0 - 1)) :=
    sm_congr (fun j _ _ => lat_del (by have := hX j; omega) (by have := hY j; omega))
  have e4 : sm 0 n (fun _ => 2 * (2 * wl n X Y 0 - 1)) = 2 * (2 * wl n X Y 0 - 1) * n := by
    have : ∀ (k : Nat) (c : Int), sm 0 k (fun _ => c) = c * k := by
      intro k c
      induction k with
      | zero => simp [sm]
      | succ k ih => rw [sm, ih, Int.natCast_add, Int.mul_add]; simp
    exact this _ _
  rw [e3, sm_sub, c4_corners h, e4] at e
  generalize 2 * wl n X Y 0 - 1 = w at e ⊢
  generalize lat M (inI n X Y) = I at e ⊢
  generalize lat M (onI n X Y) = O at e ⊢
  grind
end Go.Proofs.Ytgdhgncdpmalcaa.Geo
namespace Go.Proofs.Ytgdhgncdpmalcaa.Geo
open Go.Proofs.Ytgdhgncdpmalcaa.Pure
set_option linter.unusedVariables false
theorem between_t {u t g : Int} (hu : u ≠ 0) (h : min 0 (g * u) ≤ u * t ∧ u * t ≤ max 0 (g * u)) (hg : 0 < g) : 0 ≤ t ∧ t ≤ g := by
  rcases Int.lt_or_gt_of_ne hu with q | q
  · have m := Int.mul_pos hg (show 0 < -u by omega)
    rw [Int.mul_neg] at m
    constructor
    · apply Classical.byContradiction; intro c
      have := Int.mul_pos (show 0 < -u by omega) (show 0 < -t by omega); rw [Int.neg_mul_neg] at this; omega
    · apply Classical.byContradiction; intro c
      have := Int.mul_pos (show 0 < -u by omega) (show 0 < t - g by omega)
      have e : -u * (t - g) = g * u - u * t := by grind
      omega
  · have m := Int.mul_pos hg q
    constructor
    · apply Classical.byContradiction; intro c
      have := Int.mul_pos q (show 0 < -t by omega); rw [Int.mul_neg] at this; omega
    · apply Classical.byContradiction; intro c
      have := Int.mul_pos q (show 0 < t - g by omega)
      have e : u * (t - g) = u * t - g * u := by grind
      omega
theorem par_t {u v r s : Int} (hg : Int.gcd u v = 1) (h : u * s = v * r) : ∃ t, r = u * t ∧ s = v * t := by
  have hc : Nat.Coprime u.natAbs v.natAbs := hg
  by_cases hu : u = 0
  · subst hu
    rw [Int.zero_mul] at h
    rw [Int.gcd_zero_left] at hg
    have hv : v * v = 1 := by
      rcases show v = 1 ∨ v = -1 by omega with q | q <;> subst q <;> rfl
    have hr : r = 0 := by
      rcases Int.mul_eq_zero.1 h.symm with q | q
      · subst q; omega
      · exact q
    exact ⟨s * v, by rw [hr]; simp, by rw [Int.mul_comm s v, ← Int.mul_assoc, hv, Int.one_mul]⟩
  · have d : u.natAbs ∣ v.natAbs * r.natAbs := by rw [← Int.natAbs_mul, ← h, Int.natAbs_mul]; exact ⟨_, rfl⟩
    have d2 := hc.dvd_of_dvd_mul_left d
    obtain ⟨t, rfl⟩ := Int.natAbs_dvd_natAbs.1 d2
    refine ⟨t, rfl, ?_⟩
    have : u * s = u * (v * t) := by rw [h]; grind
    exact Int.eq_of_mul_eq_mul_left hu this
open Classical in
/-- 1 for a point on a side, but for its end. -/
noncomputable def cntI (ax ay bx b_y x y : Int) : Int := if onP ax ay bx b_y x y ∧ ¬ (x = bx ∧ y = b_y) then 1 else 0
theorem cnt_del {ax ay u v : Int} {g : Nat} (hg : 0 < g) (h1 : Int.gcd u v = 1) (x y : Int) :
    cntI ax ay (ax + g * u) (ay + g * v) x y = sm 0 g (fun t => del (ax + u * t) (ay + v * t) 1 x y) := by
  have nz : u ≠ 0 ∨ v ≠ 0 := by
    by_cases q : u = 0
    · right; intro e; subst q; subst e; simp at h1
    · exact .inl q
  unfold cntI
  by_cases c : onP ax ay (ax + g * u) (ay + g * v) x y ∧ ¬ (x = ax + g * u ∧ y = ay + g * v)
  · rw [if_pos c]
    obtain ⟨⟨c0, c1, c2, c3, c4⟩, ce⟩ := c
    unfold crs at c0
    have e : u * (y - ay) = v * (x - ax) := by
      have : (g : Int) * (u * (y - ay) - v * (x - ax)) = 0 := by
        have e1 : (g : Int) * (u * (y - ay) - v * (x - ax)) = (ax + g * u - ax) * (y - ay) - (ay + g * v - ay) * (x - ax) := by grind
        rw [e1]; exact c0
      rcases Int.mul_eq_zero.1 this with q | q <;> omega
    obtain ⟨t, t1, t2⟩ := par_t h1 e
    have bt : 0 ≤ t ∧ t ≤ g := by
      rcases nz with q | q
      · exact between_t (g := (g : Int)) q (by rw [← t1]; omega) (by omega)
      · exact between_t (g := (g : Int)) q (by rw [← t2]; omega) (by omega)
    have tg : t ≠ g := fun q => ce ⟨by rw [q, Int.mul_comm] at t1; omega, by rw [q, Int.mul_comm] at t2; omega⟩
    obtain ⟨m, rfl⟩ : ∃ m : Nat, t = m := ⟨t.toNat, by omega⟩
    have : sm 0 g (fun k => del (ax + u * k) (ay + v * k) 1 x y) = sm 0 g (fun k => if k = m then 1 else 0) := sm_congr (fun k _ _ => by
      unfold del
      by_cases q : k = m
      · subst q; rw [if_pos ⟨by omega, by omega⟩, if_pos rfl]
      · rw [if_neg q, if_neg]
        rintro ⟨e1, e2⟩
        rcases nz with z | z
        · have := Int.eq_of_mul_eq_mul_left z (show u * (k : Int) = u * (m : Int) by omega); omega
        · have := Int.eq_of_mul_eq_mul_left z (show v * (k : Int) = v * (m : Int) by omega); omega)
    rw [this, sm_delta, if_pos (by omega)]
  · rw [if_neg c]
    symm
    refine sm_zero (fun k _ hk => ?_)
    unfold del
    rw [if_neg]
    rintro ⟨rfl, rfl⟩
    apply c
    have bd : ∀ w : Int, min 0 (g * w) ≤ w * k ∧ w * k ≤ max 0 (g * w) := by
      intro w
      rcases Int.le_total 0 w with q | q
      · have m1 := Int.mul_nonneg q (show 0 ≤ (k : Int) by omega)
        have m2 := Int.mul_le_mul_of_nonneg_left (show (k : Int) ≤ g by omega) q
        rw [Int.mul_comm w g] at m2; omega
      · have m1 := Int.mul_nonneg (show 0 ≤ -w by omega) (show 0 ≤ (k : Int) by omega)
        have m2 := Int.mul_le_mul_of_nonneg_left (show (k : Int) ≤ g by omega) (show 0 ≤ -w by omega)
        rw [Int.neg_mul] at m1; rw [Int.neg_mul, Int.neg_mul, Int.mul_comm w g] at m2; omega
    have b1 := bd u; have b2 := bd v
    refine ⟨?_, ?_⟩
    · unfold onP crs
      refine ⟨by grind, ?_⟩
      omega
    · rintro ⟨e1, e2⟩
      rcases nz with z | z
      · have := Int.eq_of_mul_eq_mul_left z (show u * (k : Int) = u * (g : Int) by rw [Int.mul_comm u g]; omega); omega
      · have := Int.eq_of_mul_eq_mul_left z (show v * (k : Int) = v * (g : Int) by rw [Int.mul_comm v g]; omega); omega
theorem lat_cnt {ax ay bx b_y : Int} {M : Nat} (ne : ¬ (bx = ax ∧ b_y = ay)) (ha : -(M : Int) ≤ ax ∧ ax ≤ M) (hb : -(M : Int) ≤ bx ∧ bx ≤ M) (ha' : -(M : Int) ≤ ay ∧ ay ≤ M) (hb' : -(M : Int) ≤ b_y ∧ b_y ≤ M) :
    lat M (cntI ax ay bx b_y) = (Int.gcd (bx - ax) (b_y - ay) : Int) := by
  have hg : 0 < Int.gcd (bx - ax) (b_y - ay) := Int.gcd_pos_iff.2 (by omega)
  obtain ⟨u, hu⟩ := Int.gcd_dvd_left (bx - ax) (b_y - ay)
  obtain ⟨v, hv⟩ := Int.gcd_dvd_right (bx - ax) (b_y - ay)
  generalize hG : Int.gcd (bx - ax) (b_y - ay) = g at *
  have h1 : Int.gcd u v = 1 := by
    rw [hu, hv, Int.gcd_mul_left, Int.natAbs_natCast] at hG
    exact Nat.eq_of_mul_eq_mul_left hg (by omega)
  obtain rfl : bx = ax + g * u := by omega
  obtain rfl : b_y = ay + g * v := by omega
  have e : lat M (cntI ax ay (ax + g * u) (ay + g * v)) = lat M (fun x y => sm 0 g (fun t => del (ax + u * t) (ay + v * t) 1 x y)) := lat_congr (fun x y _ _ _ _ => cnt_del hg h1 x y)
  rw [e, lat_sm]
  have bd : ∀ (w : Int) (k : Nat), k < g → min 0 (g * w) ≤ w * k ∧ w * k ≤ max 0 (g * w) := by
    intro w k hk
    rcases Int.le_total 0 w with q | q
    · have m1 := Int.mul_nonneg q (show 0 ≤ (k : Int) by omega)
      have m2 := Int.mul_le_mul_of_nonneg_left (show (k : Int) ≤ g by omega) q
      rw [Int.mul_comm w g] at m2; omega
    · have m1 := Int.mul_nonneg (show 0 ≤ -w by omega) (show 0 ≤ (k : Int) by omega)
      have m2 := Int.mul_le_mul_of_nonneg_left (show (k : Int) ≤ g by omega) (show 0 ≤ -w by omega)
      rw [Int.neg_mul] at m1; rw [Int.neg_mul, Int.neg_mul, Int.mul_comm w g] at m2; omega
  have : sm 0 g (fun t => lat M (del (ax + u * t) (ay + v * t) 1)) = sm 0 g (fun t => 1) := sm_congr (fun t _ ht => lat_del (by have := bd u t (by omega); omega) (by have := bd v t (by omega); omega))
  rw [this]
  have : ∀ k, sm 0 k (fun _ => (1 : Int)) = k := by
    intro k
    induction k with
    | zero => rfl
    | succ k ih => rw [sm, ih]; omega
  exact this g
theorem on_cnt {n : Nat} {X Y : Nat → Int} (h : Simple n X Y) (x y : Int) : onI n X Y x y = sm 0 n (fun j => cntI (X j) (Y j) (X (j + 1)) (Y (j + 1)) x y) := by
  have n3 := h.n3
  have p0 := h.px 0; have p1 := h.py 0; have q0 := h.px 1; have q1 := h.py 1
  rw [Nat.zero_add] at p0 p1
  have ne : ∀ j, ¬ (X (j + 1) = X j ∧ Y (j + 1) = Y j) := fun j => by have := h.edge j; omega
  unfold onI
  by_cases ho : ∃ j, j < n ∧ onP (X j) (Y j) (X (j + 1)) (Y (j + 1)) x y
  · rw [if_pos ho]
    have ho2 : ∃ j, j < n ∧ onP (X j) (Y j) (X (j + 1)) (Y (j + 1)) x y ∧ ¬ (x = X (j + 1) ∧ y = Y (j + 1)) := by
      obtain ⟨j, hj, o⟩ := ho
      by_cases c : x = X (j + 1) ∧ y = Y (j + 1)
      · by_cases d : j + 1 < n
        · refine ⟨j + 1, d, by rw [c.1, c.2]; exact onP_beg, fun k => ne (j + 1) ⟨by omega, by omega⟩⟩
        · rw [show j + 1 = n by omega, p0, p1] at c
          refine ⟨0, by omega, by rw [c.1, c.2]; exact onP_beg, fun k => ne 0 ⟨by omega, by omega⟩⟩
      · exact ⟨j, hj, o, c⟩
    obtain ⟨j, hj, o, e⟩ := ho2
    -- no other side has it, but for its end
    have uniq : ∀ a b, a < b → b < n → onP (X a) (Y a) (X (a + 1)) (Y (a + 1)) x y → ¬ (x = X (a + 1) ∧ y = Y (a + 1)) → onP (X b) (Y b) (X (b + 1)) (Y (b + 1)) x y → ¬ (x = X (b + 1) ∧ y = Y (b + 1)) → False := by
      intro a b hab hb oa ea ob eb
      by_cases c : b = a + 1
      · subst c
        exact ea (fwd_on (h.fwd a) (ne a) (ne (a + 1)) oa ob)
      · by_cases d : b + 2 ≤ a + n
        · exact sep_on (h.sep a b (by omega) d) (ne a) (ne b) oa ob
        · obtain rfl : a = 0 := by omega
          have bn : b + 1 = n := by omega
          have f := h.fwd b
          have e0 : X (b + 2) = X (0 + 1) := by rw [show b + 2 = 1 + n by omega, q0]
          have e1 : Y (b + 2) = Y (0 + 1) := by rw [show b + 2 = 1 + n by omega, q1]
          have e2 : X (b + 1) = X 0 := by rw [bn, p0]
          have e3 : Y (b + 1) = Y 0 := by rw [bn, p1]
          rw [e0, e1, e2, e3] at f
          rw [e2, e3] at ob eb
          exact eb (fwd_on f (by have := ne b; rw [e2, e3] at this; exact this) (ne 0) ob oa)
    have : sm 0 n (fun k => cntI (X k) (Y k) (X (k + 1)) (Y (k + 1)) x y) = sm 0 n (fun k => if k = j then 1 else 0) := sm_congr (fun k _ hk => by
      unfold cntI
      by_cases q : k = j
      · subst q; rw [if_pos ⟨o, e⟩, if_pos rfl]
      · rw [if_neg q, if_neg]
        rintro ⟨o2, e2⟩
        rcases Nat.lt_or_ge k j with z | z
        · exact uniq k j z hj o2 e2 o e
        · exact uniq j k (by omega) (by omega) o e o2 e2)
    rw [this, sm_delta, if_pos hj]
  · rw [if_neg ho]
    symm
    exact sm_zero (fun k _ hk => by unfold cntI; rw [if_neg]; exact fun c => ho ⟨k, by omega, c.1⟩)
theorem lat_on {n : Nat} {X Y : Nat → Int} (h : Simple n X Y) {M : Nat} (hX : ∀ i, -(M : Int) ≤ X i ∧ X i ≤ M) (hY : ∀ i, -(M : Int) ≤ Y i ∧ Y i ≤ M) :
    lat M (onI n X Y) = sm 0 n (fun j => (Int.gcd (X (j + 1) - X j) (Y (j + 1) - Y j) : Int)) := by
  have e : lat M (onI n X Y) = lat M (fun x y => sm 0 n (fun j => cntI (X j) (Y j) (X (j + 1)) (Y (j + 1)) x y)) := lat_congr (fun x y _ _ _ _ => on_cnt h x y)
  rw [e, lat_sm]
  exact sm_congr (fun j _ _ => lat_cnt (by have := h.edge j; omega) (hX j) (hX (j + 1)) (hY j) (hY (j + 1)))
end Go.Proofs.Ytgdhgncdpmalcaa.Geo
namespace Go.Proofs.Ytgdhgncdpmalcaa.Pure
open Go.RowKit Go.Proofs.Ytgdhgncdpmalcaa.Q Go.Proofs.Ytgdhgncdpmalcaa.Ring Go.Proofs.Ytgdhgncdpmalcaa.Geo Go.Proofs.YtgdhgncdpmalcaaW.PrintWords Go.Proofs.YtgdhgncdpmalcaaW.PrintLast
set_option linter.unusedVariables false
theorem xx_bd {l : List Pt} (h : cvB l = true) (i : Nat) : -10000 ≤ XX l i ∧ XX l i ≤ 10000 := (cv_at h i).1
theorem yy_bd {l : List Pt} (h : cvB l = true) (i : Nat) : -10000 ≤ YY l i ∧ YY l i ≤ 10000 := (cv_at h i).2
theorem okS_simple {l : List Pt} (h : okS l = true) : Simple l.length (XX l) (YY l) := Geo.SimpI.simple (okS_iff.1 h).2
theorem areaI_eq (l : List Pt) : areaI l.length (XX l) (YY l) = area2 l := rfl
/-- The lattice that holds all corners, and more. -/
theorem okS_pick {l : List Pt} (h : okS l = true) {M : Nat} (hM : 40000 ≤ M) : area2 l = (2 * wl l.length (XX l) (YY l) 0 - 1) * (2 * lat M (inI l.length (XX l) (YY l)) + lat M (onI l.length (XX l) (YY l)) - 2) := by
  have hc := (okS_iff.1 h).1
  rw [← areaI_eq]
  exact pick (okS_simple h) (okS_iff.1 h).2.dist (B := 10000) (by omega) (xx_bd hc) (yy_bd hc) (by omega)
theorem inI_01 (n : Nat) (X Y : Nat → Int) (x y : Int) : inI n X Y x y = 0 ∨ inI n X Y x y = 1 := by unfold inI; split <;> simp
theorem sm_nn {lo k : Nat} {f : Nat → Int} (h : ∀ j, 0 ≤ f j) : 0 ≤ sm lo k f := by
  induction k with
  | zero => exact Int.le_refl _
  | succ k ih => rw [sm]; have := h (lo + k); omega
theorem lat_nn {M : Nat} {F : Int → Int → Int} (h : ∀ x y, 0 ≤ F x y) : 0 ≤ lat M F := sm_nn (fun _ => sm_nn (fun _ => h _ _))
theorem on_least {l : List Pt} (h : okS l = true) {M : Nat} (hM : 40000 ≤ M) : (l.length : Int) ≤ lat M (onI l.length (XX l) (YY l)) := by
  have hc := (okS_iff.1 h).1
  have S := okS_simple h
  rw [lat_on S (fun i => by have := xx_bd hc i; omega) (fun i => by have := yy_bd hc i; omega)]
  have : ∀ n : Nat, (n : Int) ≤ sm 0 n (fun j => (Int.gcd (XX l (j + 1) - XX l j) (YY l (j + 1) - YY l j) : Int)) := by
    intro n
    induction n with
    | zero => exact Int.le_refl _
    | succ n ih =>
      have g : 0 < Int.gcd (XX l (0 + n + 1) - XX l (0 + n)) (YY l (0 + n + 1) - YY l (0 + n)) := Int.gcd_pos_iff.2 (by have := S.edge (0 + n); omega)
      rw [sm]; omega
  exact this _
theorem wl_sign {l : List Pt} (h : okS l = true) : (wl l.length (XX l) (YY l) 0 = 1 ∧ 0 < area2 l) ∨ (wl l.length (XX l) (YY l) 0 = 0 ∧ area2 l < 0) := by
  have hc := cvB_iff.1 (okS_iff.1 h).1
  have p := okS_pick h (M := 40000) (Nat.le_refl _)
  have o := on_least h (M := 40000) (Nat.le_refl _)
  have i := lat_nn (M := 40000) (inI_nn l)
  rcases wl_01 (okS_simple h) with w | w
  · rw [w] at p; left; exact ⟨w, by omega⟩
  · rw [w] at p; right; exact ⟨w, by omega⟩
where inI_nn (l : List Pt) : ∀ x y, 0 ≤ inI l.length (XX l) (YY l) x y := fun x y => by have := inI_01 l.length (XX l) (YY l) x y; omega
theorem area_ne {l : List Pt} (h : okS l = true) : area2 l ≠ 0 := by rcases wl_sign h with w | w <;> omega
end Go.Proofs.Ytgdhgncdpmalcaa.Pure
namespace Go.Proofs.Ytgdhgncdpmalcaa.Pure
open Go.RowKit Go.Proofs.Ytgdhgncdpmalcaa.Q Go.Proofs.YtgdhgncdpmalcaaW.PrintWords Go.Proofs.YtgdhgncdpmalcaaW.PrintLast Go.Proofs.YtgdhgncdpmalcaaW.PrintMore

theorem rw64 {x : Int} (h0 : -9223372036854775808 ≤ x) (h1 : x ≤ 9223372036854775807) : wrap64 x = x := by
  unfold wrap64; omega

theorem xor_nonneg (x y : Int) (hx : 0 ≤ x) (hx' : x < 2 ^ 62) (hy : 0 ≤ y) (hy' : y < 2 ^ 62) : 0 ≤ Go.bits .xor .i64 x y := by
  obtain ⟨a, rfl⟩ : ∃ a : Nat, x = a := ⟨x.toNat, by omega⟩
  obtain ⟨b, rfl⟩ : ∃ b : Nat, y = b := ⟨y.toNat, by omega⟩
  have ha : a < 2 ^ 62 := by omega
  have hb : b < 2 ^ 62 := by omega
  have ha' : a % 2 ^ 64 = a := Nat.mod_eq_of_lt (by omega)
  have hb' : b % 2 ^ 64 = b := Nat.mod_eq_of_lt (by omega)
  have h := Nat.xor_lt_two_pow ha hb
  have e : Go.bits .xor .i64 (a : Int) (b : Int) = ((a ^^^ b : Nat) : Int) := by
    have e0 : Go.bits .xor .i64 (a : Int) (b : Int) = IntKind.i64.wrap ((BitVec.ofInt 64 (a : Int) ^^^ BitVec.ofInt 64 (b : Int)).toNat : Int) := rfl
    rw [e0, BitVec.ofInt_natCast, BitVec.ofInt_natCast, BitVec.toNat_xor, BitVec.toNat_ofNat, BitVec.toNat_ofNat, ha', hb', IntKind.wrap_i64]
    omega
  rw [e]
  exact Int.natCast_nonneg _

/-- All numbers of a list are bytes. -/
def Bts (b : List Int) : Prop := b.length ≤ 2000 ∧ ∀ x ∈ b, 0 ≤ x ∧ x ≤ 255
theorem Bts.at_ {b : List Int} (h : Bts b) (i : Int) : 0 ≤ rd b i ∧ rd b i ≤ 255 := by
  unfold rd
  by_cases hi : i.toNat < b.length
  · rw [List.getD_eq_getElem?_getD, List.getElem?_eq_getElem hi]; exact h.2 _ (List.getElem_mem hi)
  · rw [List.getD_eq_getElem?_getD, List.getElem?_eq_none (by omega)]; simp

theorem pick_ok (k : Nat) {b : List Int} {p n : Int} (hb : Bts b) (hp : 0 ≤ p ∧ p ≤ 1000000) (hn : 1 ≤ n) :
    ∃ v, spec_l6Rd_pick.f (k + 1) b p n = some (v, p + 1) ∧ 0 ≤ v ∧ v < n := by
  unfold spec_l6Rd_pick.f
  rw [if_neg (by omega), rw64 (x := p + 1) (by omega) (by omega)]
  simp only [spec_l6Rd_pick.j0]
  by_cases h0 : (b.length : Int) = 0
  · exact ⟨0, by rw [if_pos (by simpa using h0)], by omega, by omega⟩
  · rw [if_neg (by simpa using h0), show p + 1 - 1 = p by omega, rw64 (x := p) (by omega) (by omega)]
    have hlen : 0 < (b.length : Int) := by omega
    have hL := hb.1
    by_cases h1 : p < (b.length : Int)
    · rw [if_pos h1, if_pos hp.1, if_neg (by omega)]
      have hr := hb.at_ p
      rw [rw64 (by omega) (by omega), Int.tmod_eq_emod_of_nonneg hr.1]
      exact ⟨_, rfl, Int.emod_nonneg _ (by omega), Int.emod_lt_of_pos _ (by omega)⟩
    · rw [if_neg h1, if_neg h0]
      have q0 : 0 ≤ Int.tmod p (b.length : Int) := by rw [Int.tmod_eq_emod_of_nonneg hp.1]; exact Int.emod_nonneg _ (by omega)
      have q1 : Int.tmod p (b.length : Int) < (b.length : Int) := by rw [Int.tmod_eq_emod_of_nonneg hp.1]; exact Int.emod_lt_of_pos _ hlen
      rw [rw64 (x := p * 7) (by omega) (by omega), rw64 (x := p * 7 + 3) (by omega) (by omega)]
      have q2 : 0 ≤ Int.tmod (p * 7 + 3) (b.length : Int) := by rw [Int.tmod_eq_emod_of_nonneg (by omega)]; exact Int.emod_nonneg _ (by omega)
      have q3 : Int.tmod (p * 7 + 3) (b.length : Int) < (b.length : Int) := by rw [Int.tmod_eq_emod_of_nonneg (by omega)]; exact Int.emod_lt_of_pos _ hlen
      rw [if_pos q0, if_pos q1, if_pos q2, if_pos q3, if_neg (by omega)]
      have hr := hb.at_ (Int.tmod p (b.length : Int))
      have hs := hb.at_ (Int.tmod (p * 7 + 3) (b.length : Int))
      have hd : 0 ≤ Int.tdiv p (b.length : Int) ∧ Int.tdiv p (b.length : Int) ≤ p := by
        rw [Int.tdiv_eq_ediv_of_nonneg hp.1]
        exact ⟨Int.ediv_nonneg hp.1 (by omega), Int.ediv_le_self _ hp.1⟩
      generalize rd b (Int.tmod p (b.length : Int)) = u at *
      generalize rd b (Int.tmod (p * 7 + 3) (b.length : Int)) = v at *
      generalize Int.tdiv p (b.length : Int) = d at *
      rw [rw64 (x := u) (by omega) (by omega), rw64 (x := v) (by omega) (by omega), rw64 (x := u * 131) (by omega) (by omega), rw64 (x := v * 1117) (by omega) (by omega),
        rw64 (x := u * 131 + v * 1117) (by omega) (by omega), rw64 (x := p * 29) (by omega) (by omega), rw64 (x := u * 131 + v * 1117 + p * 29) (by omega) (by omega),
        rw64 (x := d) (by omega) (by omega), rw64 (x := d * 53) (by omega) (by omega), rw64 (x := u * 131 + v * 1117 + p * 29 + d * 53) (by omega) (by omega)]
      have hx : 0 ≤ u * 131 + v * 1117 + p * 29 + d * 53 := by omega
      have hx' : u * 131 + v * 1117 + p * 29 + d * 53 < 2 ^ 60 := by omega
      generalize u * 131 + v * 1117 + p * 29 + d * 53 = x at *
      have hy : 0 ≤ Int.tdiv x 64 ∧ Int.tdiv x 64 < 2 ^ 60 := by rw [Int.tdiv_eq_ediv_of_nonneg hx]; omega
      rw [rw64 (x := Int.tdiv x 64) (by omega) (by omega)]
      have hz := xor_nonneg x (Int.tdiv x 64) hx (by omega) hy.1 (by omega)
      rw [Int.tmod_eq_emod_of_nonneg hz]
      exact ⟨_, rfl, Int.emod_nonneg _ (by omega), Int.emod_lt_of_pos _ (by omega)⟩

theorem open_ok {l : List Int} (hl : ∀ x ∈ l, (Lit.int .u8 x).wf = true) : ∃ b, spec_l6Open.f l = some (b, 0) ∧ Bts b := by
  have hb : ∀ x ∈ l, 0 ≤ x ∧ x ≤ 255 := fun x hx => by
    have := hl x hx
    simp [Lit.wf, IntKind.min, IntKind.max, IntKind.signed, IntKind.bits] at this
    omega
  unfold spec_l6Open.f
  by_cases h : (l.length : Int) > 2000
  · rw [if_pos h, if_pos (by omega)]
    exact ⟨_, rfl, by rw [List.length_take]; omega, fun x hx => hb x (List.mem_of_mem_take hx)⟩
  · rw [if_neg h]
    exact ⟨_, rfl, by omega, hb⟩
end Go.Proofs.Ytgdhgncdpmalcaa.Pure
namespace Go.Proofs.Ytgdhgncdpmalcaa.Pure
open Go.RowKit Go.Proofs.Ytgdhgncdpmalcaa.Q Go.Proofs.YtgdhgncdpmalcaaW.PrintWords Go.Proofs.YtgdhgncdpmalcaaW.PrintLast Go.Proofs.YtgdhgncdpmalcaaW.PrintMore

theorem l91Point_ok (k : Nat) {b : List Int} {p : Int} (hb : Bts b) (hp : 0 ≤ p ∧ p ≤ 100000) :
    ∃ x y q, spec_l91Point.f (k + 1) b p = some (x, y, q) ∧ p ≤ q ∧ q ≤ p + 5 ∧ -10001 ≤ x ∧ x ≤ 10001 ∧ -10001 ≤ y ∧ y ≤ 10001 := by
  unfold spec_l91Point.f
  obtain ⟨v1, h1, _, _⟩ := pick_ok k hb (p := p) (n := 13) (by omega) (by omega)
  obtain ⟨v2, h2, _, _⟩ := pick_ok k hb (p := p + 1) (n := 13) (by omega) (by omega)
  obtain ⟨v3, h3, _, _⟩ := pick_ok k hb (p := p + 1 + 1) (n := 40) (by omega) (by omega)
  rw [h1]; simp only [Option.bind_some]
  rw [h2]; simp only [Option.bind_some]
  rw [h3]; simp only [Option.bind_some]
  rw [rw64 (x := v1 - 6) (by omega) (by omega), rw64 (x := v2 - 6) (by omega) (by omega)]
  by_cases e0 : v3 = 0
  · rw [if_pos e0]
    obtain ⟨v4, h4, _, _⟩ := pick_ok k hb (p := p + 1 + 1 + 1) (n := 3) (by omega) (by omega)
    rw [h4]; simp only [Option.bind_some]
    rw [if_pos (by omega), if_pos (by simp; omega)]
    refine ⟨_, _, _, rfl, by omega, by omega, ?_⟩
    have : v4 = 0 ∨ v4 = 1 ∨ v4 = 2 := by omega
    rcases this with rfl | rfl | rfl <;> refine ⟨by decide, by decide, by omega, by omega⟩
  · rw [if_neg e0]
    by_cases e1 : v3 = 1
    · rw [if_pos e1]
      obtain ⟨v4, h4, _, _⟩ := pick_ok k hb (p := p + 1 + 1 + 1) (n := 200) (by omega) (by omega)
      obtain ⟨v5, h5, _, _⟩ := pick_ok k hb (p := p + 1 + 1 + 1 + 1) (n := 200) (by omega) (by omega)
      rw [h4]; simp only [Option.bind_some]
      rw [h5]; simp only [Option.bind_some]
      rw [rw64 (x := v4 * 50) (by omega) (by omega), rw64 (x := v5 * 50) (by omega) (by omega), rw64 (x := v4 * 50 - 5000) (by omega) (by omega), rw64 (x := v5 * 50 - 5000) (by omega) (by omega)]
      exact ⟨_, _, _, rfl, by omega, by omega, by omega, by omega, by omega, by omega⟩
    · rw [if_neg e1]
      exact ⟨_, _, _, rfl, by omega, by omega, by omega, by omega, by omega, by omega⟩

end Go.Proofs.Ytgdhgncdpmalcaa.Pure
namespace Go.Proofs.Ytgdhgncdpmalcaa.Pure
open Go.RowKit Go.Proofs.Ytgdhgncdpmalcaa.Q Go.Proofs.YtgdhgncdpmalcaaW.PrintWords Go.Proofs.YtgdhgncdpmalcaaW.PrintLast Go.Proofs.YtgdhgncdpmalcaaW.PrintMore
theorem l92Box_ok (k : Nat) {b : List Int} {p : Int} (hb : Bts b) (hp : 0 ≤ p ∧ p ≤ 100000) : ∃ l q, spec_l92Box.f (k + 2) b p = some (l, q) ∧ p ≤ q ∧ q ≤ p + 10 ∧ l.length ≤ 12 := by
  unfold spec_l92Box.f
  obtain ⟨v1, h1, _, _⟩ := pick_ok (k + 1) hb (p := p) (n := 5) (by omega) (by omega)
  obtain ⟨v2, h2, _, _⟩ := pick_ok (k + 1) hb (p := p + 1) (n := 5) (by omega) (by omega)
  obtain ⟨v3, h3, _, _⟩ := pick_ok (k + 1) hb (p := p + 1 + 1) (n := 5) (by omega) (by omega)
  obtain ⟨v4, h4, _, _⟩ := pick_ok (k + 1) hb (p := p + 1 + 1 + 1) (n := 5) (by omega) (by omega)
  rw [h1]; simp only [Option.bind_some]
  rw [h2]; simp only [Option.bind_some]
  rw [h3]; simp only [Option.bind_some]
  rw [h4]; simp only [Option.bind_some]
  have j : ∀ (x y : Int) (l : List Pt) (c : Bool) (r : Int), l.length = 4 → p ≤ r → r ≤ p + 8 → ∃ l' q, spec_l92Box.j0 (k + 2) x y l c b r = some (l', q) ∧ p ≤ q ∧ q ≤ p + 10 ∧ l'.length ≤ 12 := by
    intro x y l c r hl h0 h8
    obtain ⟨v5, h5, _, _⟩ := pick_ok k hb (p := r) (n := 3) (by omega) (by omega)
    cases c
    · rw [spec_l92Box.j0, if_neg (by decide), h5]
      simp only [Option.bind_some]
      by_cases e : v5 = 0
      · rw [if_pos e, if_pos (by omega)]; exact ⟨_, _, rfl, by omega, by omega, by simp; omega⟩
      · rw [if_neg e]; exact ⟨_, _, rfl, by omega, by omega, by omega⟩
    · rw [spec_l92Box.j0, if_pos rfl, Option.bind_some, if_pos (by omega), Option.bind_some, if_pos (by simp; omega), Option.bind_some, h5]
      simp only [Option.bind_some]
      by_cases e : v5 = 0
      · rw [if_pos e, if_pos (by simp; omega)]; exact ⟨_, _, rfl, by omega, by omega, by simp; omega⟩
      · rw [if_neg e]; exact ⟨_, _, rfl, by omega, by omega, by simp; omega⟩
  by_cases e : wrap64 (1 + v3) > 1
  · rw [if_pos e]
    obtain ⟨v5, h5, _, _⟩ := pick_ok (k + 1) hb (p := p + 1 + 1 + 1 + 1) (n := 2) (by omega) (by omega)
    rw [h5]; simp only [Option.bind_some]
    exact j _ _ _ _ _ rfl (by omega) (by omega)
  · rw [if_neg e]
    exact j _ _ _ _ _ rfl (by omega) (by omega)
theorem l92Star_l0 {b : List Int} (hb : Bts b) {s : List Pt} (hs : s.length ≤ 12) (n : Nat) : ∀ (i : Nat) (x : List Pt) (p : Int) (k : Nat), i + n = s.length → n < k → x.length ≤ i → 0 ≤ p → p + 2 * n ≤ 100000 →
    ∃ l q, spec_l92Star.l0 k s x (i : Int) b p = some (l, q) ∧ p ≤ q ∧ q ≤ p + 2 * n ∧ l.length ≤ x.length + n := by
  induction n with
  | zero =>
    intro i x p k hi hk _ _ _
    obtain ⟨k, rfl⟩ : ∃ m, k = m + 1 := ⟨k - 1, by omega⟩
    exact ⟨x, p, by rw [spec_l92Star.l0, if_neg (by omega)], by omega, by omega, by omega⟩
  | succ n ih =>
    intro i x p k hi hk hx h0 hp
    obtain ⟨k, rfl⟩ : ∃ m, k = m + 2 := ⟨k - 2, by omega⟩
    have hw : wrap64 ((i : Int) + 1) = ((i + 1 : Nat) : Int) := by rw [pw64 (by omega) (by omega)]; omega
    rw [spec_l92Star.l0, if_pos (by omega)]
    obtain ⟨v1, h1, _, _⟩ := pick_ok k hb (p := p) (n := 3) (by omega) (by omega)
    by_cases e : Int.tmod (i : Int) 4 = 0
    · rw [if_pos e, h1]
      simp only [Option.bind_some]
      rw [if_pos (by omega), if_pos (by omega), hw]
      obtain ⟨l, q, e1, e2, e3, e4⟩ := ih (i + 1) (x ++ [(⟨wrap64 ((wrap64 (1 + v1)) * ((rd_T32 s (i : Int)).f0)), wrap64 ((wrap64 (1 + v1)) * ((rd_T32 s (i : Int)).f1))⟩ : Pt)]) (p + 1) (k + 1) (by omega) (by omega) (by simp; omega) (by omega) (by omega)
      exact ⟨l, q, e1, by omega, by omega, by simp at e4; omega⟩
    · rw [if_neg e, h1]
      simp only [Option.bind_some]
      by_cases e' : v1 = 0
      · obtain ⟨v2, h2, _, _⟩ := pick_ok k hb (p := p + 1) (n := 3) (by omega) (by omega)
        rw [if_pos e', h2]
        simp only [Option.bind_some]
        rw [if_pos (by omega), if_pos (by omega), hw]
        obtain ⟨l, q, e1, e2, e3, e4⟩ := ih (i + 1) (x ++ [(⟨wrap64 ((wrap64 (1 + v2)) * ((rd_T32 s (i : Int)).f0)), wrap64 ((wrap64 (1 + v2)) * ((rd_T32 s (i : Int)).f1))⟩ : Pt)]) (p + 1 + 1) (k + 1) (by omega) (by omega) (by simp; omega) (by omega) (by omega)
        exact ⟨l, q, e1, by omega, by omega, by simp at e4; omega⟩
      · rw [if_neg e', hw]
        obtain ⟨l, q, e1, e2, e3, e4⟩ := ih (i + 1) x (p + 1) (k + 1) (by omega) (by omega) (by omega) (by omega) (by omega)
        exact ⟨l, q, e1, by omega, by omega, by omega⟩
theorem l92Star_ok (k : Nat) {b : List Int} {p : Int} (hb : Bts b) (hp : 0 ≤ p ∧ p ≤ 10000) : ∃ l q, spec_l92Star.f (k + 20) b p = some (l, q) ∧ p ≤ q ∧ q ≤ p + 24 ∧ l.length ≤ 12 := by
  obtain ⟨l, q, e1, e2, e3, e4⟩ := l92Star_l0 hb (s := [(⟨2, 0⟩ : Pt), (⟨2, 1⟩ : Pt), (⟨1, 2⟩ : Pt), (⟨0, 2⟩ : Pt), (⟨(-1), 2⟩ : Pt), (⟨(-2), 1⟩ : Pt), (⟨(-2), 0⟩ : Pt), (⟨(-2), (-1)⟩ : Pt), (⟨(-1), (-2)⟩ : Pt), (⟨0, (-2)⟩ : Pt), (⟨1, (-2)⟩ : Pt), (⟨2, (-1)⟩ : Pt)]) (by decide) 12 0 [] p (k + 20) rfl (by omega) (by simp) (by omega) (by omega)
  exact ⟨l, q, e1, by omega, by omega, by simpa using e4⟩
theorem l92Poly_l0 {b : List Int} (hb : Bts b) {m : Int} (n : Nat) : ∀ (i : Int) (x : List Pt) (p : Int) (k : Nat), i + n = m → n < k → (x.length : Int) ≤ i → m ≤ 12 → 0 ≤ i → 0 ≤ p → p + 5 * n ≤ 100000 →
    ∃ l q, spec_l92Poly.l0 k x m i b p = some (l, q) ∧ p ≤ q ∧ q ≤ p + 5 * n ∧ l.length ≤ x.length + n := by
  induction n with
  | zero =>
    intro i x p k hi hk _ _ _ _ _
    obtain ⟨k, rfl⟩ : ∃ m, k = m + 1 := ⟨k - 1, by omega⟩
    exact ⟨x, p, by rw [spec_l92Poly.l0, if_neg (by omega)], by omega, by omega, by omega⟩
  | succ n ih =>
    intro i x p k hi hk hx hm hi0 h0 hp
    obtain ⟨k, rfl⟩ : ∃ m, k = m + 2 := ⟨k - 2, by omega⟩
    obtain ⟨u, v, r, h1, h2, h3, _⟩ := l91Point_ok k hb (p := p) (by omega)
    rw [spec_l92Poly.l0, if_pos (by omega), h1]
    simp only [Option.bind_some]
    rw [if_pos (by omega), pw64 (by omega) (by omega)]
    obtain ⟨l, q, e1, e2, e3, e4⟩ := ih (i + 1) (x ++ [(⟨u, v⟩ : Pt)]) r (k + 1) (by omega) (by omega) (by simp; omega) (by omega) (by omega) (by omega) (by omega)
    exact ⟨l, q, e1, by omega, by omega, by simp at e4; omega⟩
theorem backL_length (l : List Pt) : (backL l).length = l.length := by cases l <;> simp [backL]
theorem l92Poly_ok (k : Nat) {b : List Int} {p : Int} (hb : Bts b) (hp : 0 ≤ p ∧ p ≤ 1000) : ∃ l q, spec_l92Poly.f (k + 60) b p = some (l, q) ∧ p ≤ q ∧ q ≤ p + 100 ∧ l.length ≤ 12 := by
  unfold spec_l92Poly.f
  obtain ⟨v1, h1, _, _⟩ := pick_ok (k + 59) hb (p := p) (n := 8) (by omega) (by omega)
  rw [h1]; simp only [Option.bind_some]
  have box : ∃ l q, spec_l92Box.f (k + 60) b (p + 1) = some (l, q) ∧ p + 1 ≤ q ∧ q ≤ p + 1 + 10 ∧ l.length ≤ 12 := l92Box_ok (k + 58) hb (by omega)
  obtain ⟨lb, qb, b1, b2, b3, b4⟩ := box
  by_cases e0 : v1 = 0
  · rw [if_pos e0]
    obtain ⟨v2, h2, _, _⟩ := pick_ok (k + 59) hb (p := p + 1) (n := 6) (by omega) (by omega)
    rw [h2]; simp only [Option.bind_some]
    obtain ⟨l, q, e1, e2, e3, e4⟩ := l92Poly_l0 hb (m := v2) v2.toNat 0 [] (p + 1 + 1) (k + 60) (by omega) (by omega) (by simp) (by omega) (by omega) (by omega) (by omega)
    exact ⟨l, q, e1, by omega, by omega, by simp at e4; omega⟩
  · rw [if_neg e0]
    by_cases e1 : v1 = 1
    · rw [if_pos e1, b1]; exact ⟨_, _, rfl, by omega, by omega, b4⟩
    · rw [if_neg e1]
      by_cases e2 : v1 = 2
      · rw [if_pos e2, b1]; exact ⟨_, _, rfl, by omega, by omega, b4⟩
      · rw [if_neg e2]
        by_cases e3 : v1 = 3
        · rw [if_pos e3, b1]; exact ⟨_, _, rfl, by omega, by omega, b4⟩
        · rw [if_neg e3]
          obtain ⟨l, q, s1, s2, s3, s4⟩ := l92Star_ok (k + 40) hb (p := p + 1) (by omega)
          rw [s1]; simp only [Option.bind_some]
          obtain ⟨v5, h5, _, _⟩ := pick_ok (k + 59) hb (p := q) (n := 5) (by omega) (by omega)
          rw [h5]; simp only [Option.bind_some]
          by_cases e5 : v5 = 0
          · rw [if_pos e5, spec_PolyBack_eq _ l (by omega) (by omega)]
            simp only [Option.bind_some]
            refine ⟨_, _, rfl, by omega, by omega, ?_⟩
            split
            · rw [backL_length]; exact s4
            · simp
          · rw [if_neg e5]; exact ⟨_, _, rfl, by omega, by omega, s4⟩
end Go.Proofs.Ytgdhgncdpmalcaa.Pure
namespace Go.Proofs.Ytgdhgncdpmalcaa.Pure
open Go.RowKit Go.Proofs.Ytgdhgncdpmalcaa.Q Go.Proofs.Ytgdhgncdpmalcaa.Ring Go.Proofs.Ytgdhgncdpmalcaa.Geo Go.Proofs.YtgdhgncdpmalcaaW.PrintWords Go.Proofs.YtgdhgncdpmalcaaW.PrintLast Go.Proofs.YtgdhgncdpmalcaaW.PrintMore
theorem implValid_eq (l : List Pt) : impl_PolyValid.f l = some (okS l) := by unfold impl_PolyValid.f; cases okS l <;> rfl
theorem specValid_eq {l : List Pt} (h : l.length ≤ 1048576) : spec_PolyValid.f l = some (okS l) := if_pos h
theorem DrawPolyValid_ok (k : Nat) (hk : 100 < k) {bs : List Int} (hbs : ∀ x ∈ bs, (Lit.int .u8 x).wf = true) : ∃ l, spec_DrawPolyValid.f k bs = some l ∧ l.length ≤ 12 := by
  unfold spec_DrawPolyValid.f
  obtain ⟨b, e1, hb⟩ := open_ok hbs
  rw [e1]; simp only [Option.bind_some]
  obtain ⟨k, rfl⟩ : ∃ m, k = m + 60 := ⟨k - 60, by omega⟩
  obtain ⟨l, q, e2, q0, q1, hl⟩ := l92Poly_ok k hb (p := 0) (by omega)
  rw [e2]
  simp only [Option.bind_some]
  by_cases c : (l.length : Int) > 3
  · rw [if_pos c]
    obtain ⟨v1, e3, v10, v11⟩ := pick_ok (k + 59) hb (p := q) (n := 5) (by omega) (by omega)
    rw [e3]
    simp only [Option.bind_some]
    by_cases c2 : v1 = 0
    · rw [if_pos c2, if_pos (by omega), if_pos (by omega)]; exact ⟨_, rfl, by simp; exact hl⟩
    · rw [if_neg c2]; exact ⟨l, rfl, hl⟩
  · rw [if_neg c]; exact ⟨l, rfl, hl⟩
theorem okS_turn {l : List Pt} (h : okS l = true) : okS (l.map turnP) = true := by
  obtain ⟨hv, hs⟩ := okS_iff.1 h
  have h0 := (cvB_iff.1 hv).1
  refine okS_iff.2 ⟨cv_turn hv, ?_⟩
  rw [List.length_map]
  exact (hs.map rigid_turn).congr (fun i => by unfold XX YY; rw [PC_map (by omega)]; rfl) (fun i => by unfold YY XX; rw [PC_map (by omega)]; rfl)
theorem at_app_l {l m : List Pt} {i : Nat} (h : i < l.length) : at_ (l ++ m) i = at_ l i := by
  unfold at_
  rw [List.getD_eq_getElem?_getD, List.getD_eq_getElem?_getD, List.getElem?_append_left h]
theorem at_app_r {l : List Pt} {p : Pt} : at_ (l ++ [p]) l.length = p := by
  unfold at_
  rw [List.getD_eq_getElem?_getD, List.getElem?_append_right (Nat.le_refl _), Nat.sub_self]; rfl
/-- With a corner twice it is no polygon. -/
theorem okS_twice {l : List Pt} {k : Nat} (hk : k < l.length) : okS (l ++ [PC l k]) = false := by
  cases c : okS (l ++ [PC l k])
  · rfl
  · obtain ⟨_, hs⟩ := okS_iff.1 c
    rw [List.length_append, List.length_singleton] at hs
    have e1 : PC (l ++ [PC l k]) k = PC l k := by rw [PC_at (by simp; omega), at_app_l hk, PC_at hk]
    have e2 : PC (l ++ [PC l k]) l.length = PC l k := by rw [PC_at (by simp), at_app_r]
    have := hs.dist k l.length (by omega) (by omega) (by unfold XX; rw [e1, e2]) (by unfold YY; rw [e1, e2])
    omega
theorem poly_j1 (K : Nat) (hK : 1000 ≤ K) {l : List Pt} (h : okS l = true) (ms : List Int) : laws_FnPoly.j1 (K + 1) ms l true true false = some true := by
  have hc := (okS_iff.1 h).1
  have hv := cvB_iff.1 hc
  obtain ⟨k, hk1, hk2⟩ : ∃ k : Nat, k < l.length ∧ (ms.length : Int) % (l.length : Int) = (k : Int) := ⟨ms.length % l.length, Nat.mod_lt _ (by omega), by omega⟩
  have ea : areaR l = (area2 l, true) := if_pos hc
  rw [laws_FnPoly.j1, if_neg (by decide), if_neg (by omega), impl_PolyBack_eq _ _ (by omega), if_pos hc, Option.bind_some, implArea_eq, ea, Option.bind_some, Option.bind_some, if_pos (by simp; omega), Option.bind_some, List.nil_append, hk2,
    if_pos (by omega), if_pos (by omega), Option.bind_some, if_pos (by simp; omega)]
  have er : rd_T32 l (k : Int) = PC l k := by rw [at_rd, PC_at hk1]
  rw [if_pos rfl, if_pos rfl, if_neg (area_ne h), begunAt_eq (by omega) (by omega), Option.bind_some, implValid_eq, Option.bind_some, if_pos (okS_beg h hk1), implValid_eq, Option.bind_some, if_pos (okS_back h), turned_eq hc (by omega), Option.bind_some, implValid_eq, Option.bind_some, if_pos (okS_turn h), implValid_eq, Option.bind_some, er]
  have := okS_twice hk1
  show some (!okS (l ++ [PC l k])) = some true
  rw [this]; rfl
theorem FnPoly : laws_FnPoly.Pure := by
  intro bs ms _ _ hbs _ _ _
  obtain ⟨K, hK⟩ : ∃ K : Nat, K = 1000 := ⟨_, rfl⟩
  refine ⟨K + 2, ?_⟩
  have big : laws_FnPoly.j0 (K + 2) bs ms true = some true := by rw [laws_FnPoly.j0, if_pos rfl]
  have go : laws_FnPoly.j0 (K + 2) bs ms false = some true := by
    obtain ⟨l, e1, hl⟩ := DrawPolyValid_ok (K + 1) (by omega) hbs
    rw [laws_FnPoly.j0, if_neg (by decide), e1, Option.bind_some, implValid_eq, Option.bind_some, specValid_eq (by omega), Option.bind_some, if_neg (by simp)]
    by_cases h : okS l = true
    · rw [h]
      exact poly_j1 K (by omega) h ms
    · have h' : okS l = false := by simpa using h
      rw [h', laws_FnPoly.j1, if_pos (by rfl)]; rfl
  unfold laws_FnPoly.f
  by_cases h1 : (bs.length : Int) > 1048576
  · rw [if_pos h1]; exact big
  · rw [if_neg h1]
    by_cases h2 : (ms.length : Int) > 1048576
    · rw [decide_eq_true h2]; exact big
    · rw [decide_eq_false h2]; exact go
end Go.Proofs.Ytgdhgncdpmalcaa.Pure
