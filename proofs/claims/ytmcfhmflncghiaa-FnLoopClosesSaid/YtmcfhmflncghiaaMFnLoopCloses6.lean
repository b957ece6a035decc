/- Part 6 of what the proof of this law rests on: the functions of the translation as plain Lean functions with their walks, and the plain laws behind. -/
import Derived.Test.YtmcfhmflncghiaaMFnLoopCloses5
namespace Go.Proofs.Ytmcfhmflncghiaa.Q
open Go.RowKit Go.Proofs.YtmcfhmflncghiaaW.PrintWords Go.Proofs.YtmcfhmflncghiaaW.PrintLast Go.Proofs.YtmcfhmflncghiaaW.PrintMore
attribute [local go_sem] max2_int min2_int max_two min_two max_three min_three max_four min_four
set_option linter.unusedVariables false
set_option linter.unusedSimpArgs false

/-! ### laws_FnLoopCloses: function 3 -/
mutual
def laws_FnLoopCloses.j0 : Nat → List Int → List Int → Bool → Option (Bool)
  | 0, _, _, _ => none
  | k + 1, x0, x1, x23 => if x23 = true then (some true) else ((spec_DrawLoopCloses.f k x0).bind fun bt483 => ((impl_LoopCloses.f k bt483.1 bt483.2).bind fun t487 => ((spec_LoopCloses.f k bt483.1 bt483.2).bind fun t488 => (if (t487 != t488) = true then (laws_FnLoopCloses.j1 k x1 bt483.1 bt483.2 t487 t488 true) else (laws_FnLoopCloses.j1 k x1 bt483.1 bt483.2 t487 t488 (!t487))))))
def laws_FnLoopCloses.j1 : Nat → List Int → Int → List (S32) → Bool → Bool → Bool → Option (Bool)
  | 0, _, _, _, _, _, _ => none
  | k + 1, x1, x5, x6, x7, x8, x41 => if x41 = true then (some (x7 == x8)) else ((impl_TreeFirst.f k x5 x6).bind fun bt489 => ((impl_TreeHeights.f k x5 x6 bt489.1).bind fun bt493 => (if bt489.2 = true then (if bt493.2 = true then (laws_FnLoopCloses.j2 k x1 x5 x6 bt493.1 ((x6.length : Int) == 0)) else (laws_FnLoopCloses.j2 k x1 x5 x6 bt493.1 true)) else (laws_FnLoopCloses.j2 k x1 x5 x6 bt493.1 true))))
def laws_FnLoopCloses.j2 : Nat → List Int → Int → List (S32) → List Int → Bool → Option (Bool)
  | 0, _, _, _, _, _ => none
  | k + 1, x1, x5, x6, x11, x68 => if x68 = true then (some false) else (if (x6.length : Int) = 0 then (none) else ((some (([] : List (S32)) : List (S32))).bind fun y497 => (if y497.length + x6.length < 4398046511104 then ((some (y497 ++ x6 : List (S32))).bind fun y500 => (if 0 ≤ ((x1.length : Int) % (x6.length : Int)) then (if ((x1.length : Int) % (x6.length : Int)) < (y500.length : Int) then ((some (([] : List (S32)) : List (S32))).bind fun y505 => (if ((x1.length : Int) % (x6.length : Int)) ≤ (x6.length : Int) then ((some (x6.take (((x1.length : Int) % (x6.length : Int)) : Int).toNat : List (S32))).bind fun y508 => (if y505.length + y508.length < 4398046511104 then ((some (y505 ++ y508 : List (S32))).bind fun y512 => (if 0 ≤ (wrap64 (((x1.length : Int) % (x6.length : Int)) + 1)) then (if (wrap64 (((x1.length : Int) % (x6.length : Int)) + 1)) ≤ (x6.length : Int) then ((some (x6.drop ((wrap64 (((x1.length : Int) % (x6.length : Int)) + 1)) : Int).toNat : List (S32))).bind fun y515 => (if y512.length + y515.length < 4398046511104 then ((impl_NetFits.f k x5 x6 x11).bind fun t522 => (if t522 = true then ((impl_LoopCloses.f k x5 (y500.set (((x1.length : Int) % (x6.length : Int)) : Int).toNat (⟨(rd_T32 y500 ((x1.length : Int) % (x6.length : Int))).f0, (rd_T32 y500 ((x1.length : Int) % (x6.length : Int))).f1, wrap64 (((rd_T32 y500 ((x1.length : Int) % (x6.length : Int))).f2) + 1), (rd_T32 y500 ((x1.length : Int) % (x6.length : Int))).f3⟩ : S32))).bind fun t523 => ((impl_NetWhole.f k x5 (y512 ++ y515)).bind fun t524 => (some (t523 == (!t524))))) else (some false))) else (none))) else (none)) else (none))) else (none))) else (none))) else (none)) else (none))) else (none))))
end
def laws_FnLoopCloses.f (k : Nat) (l0 : List Int) (l1 : List Int) : Option (Bool) := if (l0.length : Int) > 1048576 then (laws_FnLoopCloses.j0 k l0 l1 true) else (laws_FnLoopCloses.j0 k l0 l1 (decide ((l1.length : Int) > 1048576)))
def laws_FnLoopCloses.T15 : Bool × List (List Nat × List Nat) := (true, [([], []), ([], []), ([], []), ([1, 2], [1, 2]), ([0, 3], [0, 3]), ([], []), ([], []), ([6], [6]), ([5, 7], [5, 7]), ([4, 8, 4], [4, 8]), ([9, 9, 0, 1, 2, 3, 4, 5, 6, 7, 8, 9], [9])])
def laws_FnLoopCloses.B15 : List Nat := [0, 0, 0, 6, 15, 0, 0, 64, 224, 511, 1023]
theorem laws_FnLoopCloses.tab15 : rtab .any (opsOf Try.f3 15) = laws_FnLoopCloses.T15 := by kernel_rfl
theorem laws_FnLoopCloses.bits15 : waitsOk laws_FnLoopCloses.T15.2 laws_FnLoopCloses.B15 = true := by kernel_rfl
set_option maxHeartbeats 8000000 in
set_option maxRecDepth 100000 in
theorem laws_FnLoopCloses.calls (k : Nat) (A0 : Option Addr) (c0 : Nat) (l0 : List Int) (A1 : Option Addr) (c1 : Nat) (l1 : List Int) (r : Bool) (w : World) (hr0 : Kd.C (Kd.int .u8) w A0 l0.length l0) (hc0 : l0.length ≤ c0) (hr1 : Kd.C (Kd.int .u8) w A1 l1.length l1) (hc1 : l1.length ≤ c1) (h : laws_FnLoopCloses.f k l0 l1 = some r) (hT0 : r = true) :
    Calls Try.prog 3 #[.slice A0 l0.length c0, .slice A1 l1.length c1] w fun e w' => e = .returned (.bool r) ∧ Below w.heap.size w w' := by
  have hT := Aside0.mk hT0
  clear hT0
  have HR0 := Aside0.mk hr0
  have HC0 := Aside0.mk hc0
  clear hr0 hc0
  have HR1 := Aside0.mk hr1
  have HC1 := Aside0.mk hc1
  clear hr1 hc1
  have HB := Aside0.mk (Below.refl w.heap.size w)
  have H : (if (l0.length : Int) > 1048576 then (laws_FnLoopCloses.j0 k l0 l1 true) else (laws_FnLoopCloses.j0 k l0 l1 (decide ((l1.length : Int) > 1048576)))) = some r := h
  clear h
  have HC3 := Aside0.mk H
  clear H
  go_enter Try.func3, Try.ntmps3
  go_upto_region 1 with (fail)
  go_cut [23] (fun v23 wc => ∃ (kq : Nat) (x23_2 : Bool), v23 = .bool x23_2 ∧ Aside0 (laws_FnLoopCloses.j0 kq l0 l1 x23_2 = some r) ∧ Aside0 (kq ≤ k) ∧ Aside0 (Below w.heap.size w wc))
  case first =>
    have H := HC3.out
    clear HC3
    by_cases c4 : (l0.length : Int) > 1048576
    · rw [if_pos c4] at H
      have c4b0 : decide (1048576 < (l0.length : Int)) = true := decide_eq_true c4
      have c4b1 : decide (1048576 < l0.length) = true := decide_eq_true (by omega)
      clear c4
      (first | rw [c4b0] | (simp only [i64_w, i32_w]; rw [c4b0]) | skip)
      have H' := Aside0.mk H
      clear H
      go_wp2
      go_meet
      case rel => exact ⟨_, (true), qq14, H', ⟨qq46⟩, ⟨qq1⟩⟩
    · rw [if_neg c4] at H
      have c4b0 : decide (1048576 < (l0.length : Int)) = false := decide_eq_false c4
      have c4b1 : decide (1048576 < l0.length) = false := decide_eq_false (by omega)
      clear c4
      (first | rw [c4b0] | (simp only [i64_w, i32_w]; rw [c4b0]) | skip)
      have H' := Aside0.mk H
      clear H
      go_wp2
      go_meet
      case rel => exact ⟨_, (decide ((l1.length : Int) > 1048576)), qq14, H', ⟨qq46⟩, ⟨qq1⟩⟩
  case rest =>
    clear HC3
    try clear c1
    try clear p2
    try clear c3
    try clear c4
    try clear c4b0
    try clear c4b1
    obtain ⟨kq, x23_2, rfl, HA, HJ2, HB⟩ := hcut
    cases kq with
    | zero => exact absurd HA.out (by simp [laws_FnLoopCloses.j0])
    | succ kj2 =>
      have H := HA.out
      clear HA
      simp only [laws_FnLoopCloses.j0] at H
      by_cases c5 : x23_2 = true
      · subst c5
        have H1 : (some true) = some r := by rw [if_pos rfl] at H; exact H
        clear H
        have H := H1
        clear H1
        obtain rfl := Option.some.inj H
        go_wp2
        go_ret
        exact ⟨qq11, qq1⟩
      · replace c5 := Bool.eq_false_iff.mpr c5
        subst c5
        have H1 : ((spec_DrawLoopCloses.f kj2 l0).bind fun bt483 => ((impl_LoopCloses.f kj2 bt483.1 bt483.2).bind fun t487 => ((spec_LoopCloses.f kj2 bt483.1 bt483.2).bind fun t488 => (if (t487 != t488) = true then (laws_FnLoopCloses.j1 kj2 l1 bt483.1 bt483.2 t487 t488 true) else (laws_FnLoopCloses.j1 kj2 l1 bt483.1 bt483.2 t487 t488 (!t487)))))) = some r := by rw [if_neg (show ¬ (false = true) by decide)] at H; exact H
        clear H
        have H := H1
        clear H1
        replace H := Option.bind_eq_some_iff.mp H
        obtain ⟨⟨t483, t484⟩, A60, H⟩ := H
        replace H : ((impl_LoopCloses.f kj2 t483 t484).bind fun t487 => ((spec_LoopCloses.f kj2 t483 t484).bind fun t488 => (if (t487 != t488) = true then (laws_FnLoopCloses.j1 kj2 l1 t483 t484 t487 t488 true) else (laws_FnLoopCloses.j1 kj2 l1 t483 t484 t487 t488 (!t487))))) = some r := H
        have A6 := Aside0.mk A60
        clear A60
        replace H := Option.bind_eq_some_iff.mp H
        obtain ⟨t487, A70, H⟩ := H
        replace H : ((spec_LoopCloses.f kj2 t483 t484).bind fun t488 => (if (t487 != t488) = true then (laws_FnLoopCloses.j1 kj2 l1 t483 t484 t487 t488 true) else (laws_FnLoopCloses.j1 kj2 l1 t483 t484 t487 t488 (!t487)))) = some r := H
        have A7 := Aside0.mk A70
        clear A70
        replace H := Option.bind_eq_some_iff.mp H
        obtain ⟨t488, A80, H⟩ := H
        replace H : (if (t487 != t488) = true then (laws_FnLoopCloses.j1 kj2 l1 t483 t484 t487 t488 true) else (laws_FnLoopCloses.j1 kj2 l1 t483 t484 t487 t488 (!t487))) = some r := H
        have A8 := Aside0.mk A80
        clear A80
        have HC9 := Aside0.mk H
        clear H
        go_upto_region 6 with (first | ((with_reducible refine gate_callee (f := 7) rfl ?_); refine goesL_ (some 26) rfl rfl Try.func7 (by kernel_rfl) rfl #[.slice A0 l0.length c0] rfl qq5 ?_; (with_reducible refine (spec_DrawLoopCloses.calls kj2 _ _ l0 t483 t484 _ ?side1 ?side2 A6.out).mono ?_); (case side1 => exact qq10 HR0.out HB.out); (case side2 => exact HC0.out); rintro e w10 ⟨v485, rfl, ho0, hb⟩; refine ⟨_, rfl, ?_⟩; have n0_ := Aside0.mk (Kd.R_lower ho0 (below_size qq1)); have n1_ := Aside0.mk (below_step qq1 hb); clear HB; have HO486 := n0_; have HB := n1_; clear n0_ n1_; (try clear hb); (try clear hb2); (try clear hk); (try clear hi); (try clear ho0); obtain ⟨Ao11, co11, eo11⟩ := Kd.R_slice HO486.out; subst eo11) | ((with_reducible refine gate_callee (f := 8) rfl ?_); refine goesL_ (some 31) rfl rfl Try.func8 (by kernel_rfl) rfl #[.int .i64 t483, .slice Ao11 t484.length co11] rfl qq5 ?_; (with_reducible refine (impl_LoopCloses.calls kj2 t483 _ _ t484 t487 _ ?side1 ?side2 A7.out).mono ?_); (case side1 => exact qq12 HO486.out); (case side2 => exact qq52 HO486.out); rintro e w12 ⟨rfl, hb⟩; refine ⟨_, rfl, ?_⟩; have n0_ := Aside0.mk (Kd.R_below (qq2 HO486.out) hb); have n1_ := Aside0.mk (below_step qq1 hb); clear HO486; clear HB; have HO486 := n0_; have HB := n1_; clear n0_ n1_; (try clear hb); (try clear hb2); (try clear hk); (try clear hi)) | ((with_reducible refine gate_callee (f := 9) rfl ?_); refine goesL_ (some 34) rfl rfl Try.func9 (by kernel_rfl) rfl #[.int .i64 t483, .slice Ao11 t484.length co11] rfl qq5 ?_; (with_reducible refine (spec_LoopCloses.calls kj2 t483 _ _ t484 t488 _ ?side1 ?side2 A8.out).mono ?_); (case side1 => exact qq12 HO486.out); (case side2 => exact qq52 HO486.out); rintro e w13 ⟨rfl, hb⟩; refine ⟨_, rfl, ?_⟩; have n0_ := Aside0.mk (Kd.R_below (qq2 HO486.out) hb); have n1_ := Aside0.mk (below_step qq1 hb); clear HO486; clear HB; have HO486 := n0_; have HB := n1_; clear n0_ n1_; (try clear hb); (try clear hb2); (try clear hk); (try clear hi)))
        (try simp only [Act.put, List.setIfInBounds_toArray, List.set_cons_zero, List.set_cons_succ])
        go_cut [41] (fun v41 wc => ∃ (kq : Nat) (x41_8 : Bool), v41 = .bool x41_8 ∧ Aside0 (laws_FnLoopCloses.j1 kq l1 t483 t484 t487 t488 x41_8 = some r) ∧ Aside0 (kq ≤ kj2) ∧ Aside0 (Kd.R k32 32 wc w.heap.size (fun _ => True) (.slice Ao11 t484.length co11) t484) ∧ Aside0 (Below w.heap.size w wc))
        case first =>
          have H := HC9.out
          clear HC9
          by_cases c14 : (t487 != t488) = true
          · rw [if_pos c14] at H
            have c14b0 : (t487 != t488) = true := c14
            (try (have c14b1 : decide (t487 = t488) = false := by simpa using c14))
            (try (have c14b2 : (t487 == t488) = false := by simpa using c14))
            (try (have c14b3 : ¬ (t487 = t488) := by simpa using c14))
            clear c14
            (first | rw [c14b0] | (simp only [i64_w, i32_w]; rw [c14b0]) | skip)
            have H' := Aside0.mk H
            clear H
            go_wp2
            go_meet
            case rel => exact ⟨_, (true), qq14, H', ⟨by have := HJ2.out; first | omega | exact Nat.le_refl _⟩, ⟨qq2 HO486.out⟩, ⟨qq1⟩⟩
          · rw [if_neg c14] at H
            have c14b0 : (t487 != t488) = false := by simpa using c14
            (try (have c14b1 : decide (t487 = t488) = true := by simpa using c14))
            (try (have c14b2 : (t487 == t488) = true := by simpa using c14))
            clear c14
            (first | rw [c14b0] | (simp only [i64_w, i32_w]; rw [c14b0]) | skip)
            have H' := Aside0.mk H
            clear H
            go_wp2
            go_meet
            case rel => exact ⟨_, (!t487), qq14, H', ⟨by have := HJ2.out; first | omega | exact Nat.le_refl _⟩, ⟨qq2 HO486.out⟩, ⟨qq1⟩⟩
        case rest =>
          clear HC9
          try clear c1
          try clear p2
          try clear c3
          try clear c4
          try clear c4b0
          try clear c4b1
          try clear c5
          try clear c7
          try clear c8
          try clear c9
          try clear c14
          try clear c14b0
          try clear c14b1
          try clear c14b2
          try clear p2
          obtain ⟨kq, x41_8, rfl, HA, HJ8, HO_6, HB⟩ := hcut
          cases kq with
          | zero => exact absurd HA.out (by simp [laws_FnLoopCloses.j1])
          | succ kj8 =>
            have H := HA.out
            clear HA
            simp only [laws_FnLoopCloses.j1] at H
            by_cases c15 : x41_8 = true
            · subst c15
              have H1 : (some (t487 == t488)) = some r := by rw [if_pos rfl] at H; exact H
              clear H
              have H := H1
              clear H1
              obtain rfl := Option.some.inj H
              go_wp2
              go_ret
              exact ⟨qq11, qq1⟩
            · replace c15 := Bool.eq_false_iff.mpr c15
              subst c15
              have H1 : ((impl_TreeFirst.f kj8 t483 t484).bind fun bt489 => ((impl_TreeHeights.f kj8 t483 t484 bt489.1).bind fun bt493 => (if bt489.2 = true then (if bt493.2 = true then (laws_FnLoopCloses.j2 kj8 l1 t483 t484 bt493.1 ((t484.length : Int) == 0)) else (laws_FnLoopCloses.j2 kj8 l1 t483 t484 bt493.1 true)) else (laws_FnLoopCloses.j2 kj8 l1 t483 t484 bt493.1 true)))) = some r := by rw [if_neg (show ¬ (false = true) by decide)] at H; exact H
              clear H
              have H := H1
              clear H1
              replace H := Option.bind_eq_some_iff.mp H
              obtain ⟨⟨t489, t490⟩, A160, H⟩ := H
              replace H : ((impl_TreeHeights.f kj8 t483 t484 t489).bind fun bt493 => (if t490 = true then (if bt493.2 = true then (laws_FnLoopCloses.j2 kj8 l1 t483 t484 bt493.1 ((t484.length : Int) == 0)) else (laws_FnLoopCloses.j2 kj8 l1 t483 t484 bt493.1 true)) else (laws_FnLoopCloses.j2 kj8 l1 t483 t484 bt493.1 true))) = some r := H
              have A16 := Aside0.mk A160
              clear A160
              replace H := Option.bind_eq_some_iff.mp H
              obtain ⟨⟨t493, t494⟩, A170, H⟩ := H
              replace H : (if t490 = true then (if t494 = true then (laws_FnLoopCloses.j2 kj8 l1 t483 t484 t493 ((t484.length : Int) == 0)) else (laws_FnLoopCloses.j2 kj8 l1 t483 t484 t493 true)) else (laws_FnLoopCloses.j2 kj8 l1 t483 t484 t493 true)) = some r := H
              have A17 := Aside0.mk A170
              clear A170
              have HC18 := Aside0.mk H
              clear H
              go_upto_region 10 with (first | ((with_reducible refine gate_callee (f := 10) rfl ?_); refine goesL_ (some 48) rfl rfl Try.func10 (by kernel_rfl) rfl #[.int .i64 t483, .slice Ao11 t484.length co11] rfl qq5 ?_; (with_reducible refine (impl_TreeFirst.calls kj8 t483 _ _ t484 t489 t490 _ ?side1 ?side2 A16.out).mono ?_); (case side1 => exact qq12 HO_6.out); (case side2 => exact qq52 HO_6.out); rintro e w19 ⟨v491, rfl, ho0, hb⟩; refine ⟨_, rfl, ?_⟩; have n0_ := Aside0.mk (Kd.R_below (qq2 HO_6.out) hb); have n1_ := Aside0.mk (Kd.R_lower ho0 (below_size qq1)); have n2_ := Aside0.mk (below_step qq1 hb); clear HO_6; clear HB; have HO_6 := n0_; have HO492 := n1_; have HB := n2_; clear n0_ n1_ n2_; (try clear hb); (try clear hb2); (try clear hk); (try clear hi); (try clear ho0); obtain ⟨Ao20, co20, eo20⟩ := Kd.R_slice HO492.out; subst eo20) | ((with_reducible refine gate_callee (f := 11) rfl ?_); refine goesL_ (some 55) rfl rfl Try.func11 (by kernel_rfl) rfl #[.int .i64 t483, .slice Ao11 t484.length co11, .slice Ao20 t489.length co20] rfl qq5 ?_; (with_reducible refine (impl_TreeHeights.calls kj8 t483 _ _ t484 _ _ t489 t493 t494 _ ?side1 ?side2 ?side3 ?side4 A17.out).mono ?_); (case side1 => exact qq12 HO_6.out); (case side2 => exact qq52 HO_6.out); (case side3 => exact qq12 HO492.out); (case side4 => exact qq52 HO492.out); rintro e w21 ⟨v495, rfl, ho0, hb⟩; refine ⟨_, rfl, ?_⟩; have n0_ := Aside0.mk (Kd.R_below (qq2 HO_6.out) hb); have n1_ := Aside0.mk (Kd.R_elder' (qq2 HO492.out) (Kd.R_base ho0) hb); have n2_ := Aside0.mk (Kd.R_lower (Kd.R_new' ho0 (Kd.R_lt (qq2 HO492.out))) (below_size qq1)); have n3_ := Aside0.mk (below_step qq1 hb); clear HO_6; clear HO492; clear HB; have HO_6 := n0_; have HO492 := n1_; have HO496 := n2_; have HB := n3_; clear n0_ n1_ n2_ n3_; (try clear hb); (try clear hb2); (try clear hk); (try clear hi); (try clear ho0)))
              (try simp only [Act.put, List.setIfInBounds_toArray, List.set_cons_zero, List.set_cons_succ])
              go_cut [68] (fun v68 wc => ∃ (kq : Nat) (x68_17 : Bool), v68 = .bool x68_17 ∧ Aside0 (laws_FnLoopCloses.j2 kq l1 t483 t484 t493 x68_17 = some r) ∧ Aside0 (kq ≤ kj8) ∧ Aside0 (Kd.R k32 32 wc w.heap.size (fun _ => True) (.slice Ao11 t484.length co11) t484) ∧ Aside0 (Kd.R (Kd.int .i64) 3 wc w.heap.size (fun _ => True) v495 t493) ∧ Aside0 (Below w.heap.size w wc))
              case first =>
                have H := HC18.out
                clear HC18
                by_cases c22 : t490 = true
                · subst c22
                  have H1 : (if t494 = true then (laws_FnLoopCloses.j2 kj8 l1 t483 t484 t493 ((t484.length : Int) == 0)) else (laws_FnLoopCloses.j2 kj8 l1 t483 t484 t493 true)) = some r := by rw [if_pos rfl] at H; exact H
                  clear H
                  have H := H1
                  clear H1
                  by_cases c23 : t494 = true
                  · subst c23
                    have H1 : (laws_FnLoopCloses.j2 kj8 l1 t483 t484 t493 ((t484.length : Int) == 0)) = some r := by rw [if_pos rfl] at H; exact H
                    clear H
                    have H := H1
                    clear H1
                    have H' := Aside0.mk H
                    clear H
                    go_wp2
                    go_meet
                    case rel => exact ⟨_, (((t484.length : Int) == 0)), qq14, H', ⟨qq50 HJ2.out HJ8.out⟩, ⟨qq2 HO_6.out⟩, ⟨qq17 HO496.out⟩, ⟨qq1⟩⟩
                  · replace c23 := Bool.eq_false_iff.mpr c23
                    subst c23
                    have H1 : (laws_FnLoopCloses.j2 kj8 l1 t483 t484 t493 true) = some r := by rw [if_neg (show ¬ (false = true) by decide)] at H; exact H
                    clear H
                    have H := H1
                    clear H1
                    have H' := Aside0.mk H
                    clear H
                    go_wp2
                    go_meet
                    case rel => exact ⟨_, (true), qq14, H', ⟨qq50 HJ2.out HJ8.out⟩, ⟨qq2 HO_6.out⟩, ⟨qq17 HO496.out⟩, ⟨qq1⟩⟩
                · replace c22 := Bool.eq_false_iff.mpr c22
                  subst c22
                  have H1 : (laws_FnLoopCloses.j2 kj8 l1 t483 t484 t493 true) = some r := by rw [if_neg (show ¬ (false = true) by decide)] at H; exact H
                  clear H
                  have H := H1
                  clear H1
                  have H' := Aside0.mk H
                  clear H
                  go_wp2
                  go_meet
                  case rel => exact ⟨_, (true), qq14, H', ⟨qq50 HJ2.out HJ8.out⟩, ⟨qq2 HO_6.out⟩, ⟨qq17 HO496.out⟩, ⟨qq1⟩⟩
              case rest =>
                clear HC18
                try clear c1
                try clear c2
                try clear p2
                try clear c3
                try clear c4
                try clear c4b0
                try clear c4b1
                try clear c5
                try clear c7
                try clear c8
                try clear c9
                try clear c10
                try clear c11
                try clear c14
                try clear c14b0
                try clear c14b1
                try clear c14b2
                try clear c15
                try clear c22
                try clear c23
                try clear p2
                obtain ⟨kq, x68_17, rfl, HA, HJ17, HO_6, HO_11, HB⟩ := hcut
                cases kq with
                | zero => exact absurd HA.out (by simp [laws_FnLoopCloses.j2])
                | succ kj17 =>
                  have H := HA.out
                  clear HA
                  simp only [laws_FnLoopCloses.j2] at H
                  by_cases c24 : x68_17 = true
                  · subst c24
                    have H1 : (some false) = some r := by rw [if_pos rfl] at H; exact H
                    clear H
                    have H := H1
                    clear H1
                    exact absurd ((Option.some.inj H).trans hT.out) (by decide)
                  · replace c24 := Bool.eq_false_iff.mpr c24
                    subst c24
                    have H1 : (if (t484.length : Int) = 0 then (none) else ((some (([] : List (S32)) : List (S32))).bind fun y497 => (if y497.length + t484.length < 4398046511104 then ((some (y497 ++ t484 : List (S32))).bind fun y500 => (if 0 ≤ ((l1.length : Int) % (t484.length : Int)) then (if ((l1.length : Int) % (t484.length : Int)) < (y500.length : Int) then ((some (([] : List (S32)) : List (S32))).bind fun y505 => (if ((l1.length : Int) % (t484.length : Int)) ≤ (t484.length : Int) then ((some (t484.take (((l1.length : Int) % (t484.length : Int)) : Int).toNat : List (S32))).bind fun y508 => (if y505.length + y508.length < 4398046511104 then ((some (y505 ++ y508 : List (S32))).bind fun y512 => (if 0 ≤ (wrap64 (((l1.length : Int) % (t484.length : Int)) + 1)) then (if (wrap64 (((l1.length : Int) % (t484.length : Int)) + 1)) ≤ (t484.length : Int) then ((some (t484.drop ((wrap64 (((l1.length : Int) % (t484.length : Int)) + 1)) : Int).toNat : List (S32))).bind fun y515 => (if y512.length + y515.length < 4398046511104 then ((impl_NetFits.f kj17 t483 t484 t493).bind fun t522 => (if t522 = true then ((impl_LoopCloses.f kj17 t483 (y500.set (((l1.length : Int) % (t484.length : Int)) : Int).toNat (⟨(rd_T32 y500 ((l1.length : Int) % (t484.length : Int))).f0, (rd_T32 y500 ((l1.length : Int) % (t484.length : Int))).f1, wrap64 (((rd_T32 y500 ((l1.length : Int) % (t484.length : Int))).f2) + 1), (rd_T32 y500 ((l1.length : Int) % (t484.length : Int))).f3⟩ : S32))).bind fun t523 => ((impl_NetWhole.f kj17 t483 (y512 ++ y515)).bind fun t524 => (some (t523 == (!t524))))) else (some false))) else (none))) else (none)) else (none))) else (none))) else (none))) else (none)) else (none))) else (none)))) = some r := by rw [if_neg (show ¬ (false = true) by decide)] at H; exact H
                    clear H
                    have H := H1
                    clear H1
                    by_cases c25 : (t484.length : Int) = 0
                    · rw [if_pos c25] at H
                      exact absurd H (by simp)
                    · rw [if_neg c25] at H
                      have c25b0 : ((t484.length : Int) == 0) = false := beq_eq_false_iff_ne.mpr c25
                      have c25b1 : ((t484.length : Int) != 0) = true := bne_iff_ne.mpr c25
                      have c25b2 : ¬ (t484 = []) := fun h_ => c25 (by rw [h_]; rfl)
                      obtain ⟨y497, hy497⟩ : ∃ y_ : List (S32), y_ = (([] : List (S32))) := ⟨_, rfl⟩
                      replace H : (if y497.length + t484.length < 4398046511104 then ((some (y497 ++ t484 : List (S32))).bind fun y500 => (if 0 ≤ ((l1.length : Int) % (t484.length : Int)) then (if ((l1.length : Int) % (t484.length : Int)) < (y500.length : Int) then ((some (([] : List (S32)) : List (S32))).bind fun y505 => (if ((l1.length : Int) % (t484.length : Int)) ≤ (t484.length : Int) then ((some (t484.take (((l1.length : Int) % (t484.length : Int)) : Int).toNat : List (S32))).bind fun y508 => (if y505.length + y508.length < 4398046511104 then ((some (y505 ++ y508 : List (S32))).bind fun y512 => (if 0 ≤ (wrap64 (((l1.length : Int) % (t484.length : Int)) + 1)) then (if (wrap64 (((l1.length : Int) % (t484.length : Int)) + 1)) ≤ (t484.length : Int) then ((some (t484.drop ((wrap64 (((l1.length : Int) % (t484.length : Int)) + 1)) : Int).toNat : List (S32))).bind fun y515 => (if y512.length + y515.length < 4398046511104 then ((impl_NetFits.f kj17 t483 t484 t493).bind fun t522 => (if t522 = true then ((impl_LoopCloses.f kj17 t483 (y500.set (((l1.length : Int) % (t484.length : Int)) : Int).toNat (⟨(rd_T32 y500 ((l1.length : Int) % (t484.length : Int))).f0, (rd_T32 y500 ((l1.length : Int) % (t484.length : Int))).f1, wrap64 (((rd_T32 y500 ((l1.length : Int) % (t484.length : Int))).f2) + 1), (rd_T32 y500 ((l1.length : Int) % (t484.length : Int))).f3⟩ : S32))).bind fun t523 => ((impl_NetWhole.f kj17 t483 (y512 ++ y515)).bind fun t524 => (some (t523 == (!t524))))) else (some false))) else (none))) else (none)) else (none))) else (none))) else (none))) else (none)) else (none))) else (none)) = some r := by first | (rw [hy497]; with_reducible exact H) | (have H2_ := (Option.bind_some _ _).symm.trans H; rw [hy497]; with_reducible exact H2_) | (have H2_ := (Option.bind_some _ _).symm.trans H; with_reducible exact H2_) | with_reducible exact H | (rw [hy497]; exact H) | exact H
                      have Ny497 := Aside0.mk hy497
                      clear hy497
                      by_cases c26 : y497.length + t484.length < 4398046511104
                      · rw [if_pos c26] at H
                        have LMc26 := Aside0.mk c26
                        clear c26
                        obtain ⟨y500, hy500⟩ : ∃ y_ : List (S32), y_ = (y497 ++ t484) := ⟨_, rfl⟩
                        replace H : (if 0 ≤ ((l1.length : Int) % (t484.length : Int)) then (if ((l1.length : Int) % (t484.length : Int)) < (y500.length : Int) then ((some (([] : List (S32)) : List (S32))).bind fun y505 => (if ((l1.length : Int) % (t484.length : Int)) ≤ (t484.length : Int) then ((some (t484.take (((l1.length : Int) % (t484.length : Int)) : Int).toNat : List (S32))).bind fun y508 => (if y505.length + y508.length < 4398046511104 then ((some (y505 ++ y508 : List (S32))).bind fun y512 => (if 0 ≤ (wrap64 (((l1.length : Int) % (t484.length : Int)) + 1)) then (if (wrap64 (((l1.length : Int) % (t484.length : Int)) + 1)) ≤ (t484.length : Int) then ((some (t484.drop ((wrap64 (((l1.length : Int) % (t484.length : Int)) + 1)) : Int).toNat : List (S32))).bind fun y515 => (if y512.length + y515.length < 4398046511104 then ((impl_NetFits.f kj17 t483 t484 t493).bind fun t522 => (if t522 = true then ((impl_LoopCloses.f kj17 t483 (y500.set (((l1.length : Int) % (t484.length : Int)) : Int).toNat (⟨(rd_T32 y500 ((l1.length : Int) % (t484.length : Int))).f0, (rd_T32 y500 ((l1.length : Int) % (t484.length : Int))).f1, wrap64 (((rd_T32 y500 ((l1.length : Int) % (t484.length : Int))).f2) + 1), (rd_T32 y500 ((l1.length : Int) % (t484.length : Int))).f3⟩ : S32))).bind fun t523 => ((impl_NetWhole.f kj17 t483 (y512 ++ y515)).bind fun t524 => (some (t523 == (!t524))))) else (some false))) else (none))) else (none)) else (none))) else (none))) else (none))) else (none)) else (none)) = some r := by first | (rw [hy500]; with_reducible exact H) | (have H2_ := (Option.bind_some _ _).symm.trans H; rw [hy500]; with_reducible exact H2_) | (have H2_ := (Option.bind_some _ _).symm.trans H; with_reducible exact H2_) | with_reducible exact H | (rw [hy500]; exact H) | exact H
                        have Ny500 := Aside0.mk hy500
                        clear hy500
                        obtain ⟨ji27, hji27⟩ : ∃ j_ : Int, ((l1.length : Int) % (t484.length : Int)) = j_ := ⟨_, rfl⟩
                        replace H : (if 0 ≤ (ji27) then (if (ji27) < (y500.length : Int) then ((some (([] : List (S32)) : List (S32))).bind fun y505 => (if (ji27) ≤ (t484.length : Int) then ((some (t484.take ((ji27) : Int).toNat : List (S32))).bind fun y508 => (if y505.length + y508.length < 4398046511104 then ((some (y505 ++ y508 : List (S32))).bind fun y512 => (if 0 ≤ (wrap64 ((ji27) + 1)) then (if (wrap64 ((ji27) + 1)) ≤ (t484.length : Int) then ((some (t484.drop ((wrap64 ((ji27) + 1)) : Int).toNat : List (S32))).bind fun y515 => (if y512.length + y515.length < 4398046511104 then ((impl_NetFits.f kj17 t483 t484 t493).bind fun t522 => (if t522 = true then ((impl_LoopCloses.f kj17 t483 (y500.set ((ji27) : Int).toNat (⟨(rd_T32 y500 (ji27)).f0, (rd_T32 y500 (ji27)).f1, wrap64 (((rd_T32 y500 (ji27)).f2) + 1), (rd_T32 y500 (ji27)).f3⟩ : S32))).bind fun t523 => ((impl_NetWhole.f kj17 t483 (y512 ++ y515)).bind fun t524 => (some (t523 == (!t524))))) else (some false))) else (none))) else (none)) else (none))) else (none))) else (none))) else (none)) else (none)) = some r := by first | (rw [hji27] at H; exact H) | (simp only [hji27] at H ⊢; exact H)
                        by_cases c28 : 0 ≤ (ji27)
                        · rw [if_pos c28] at H
                          have c28b0 : decide (0 ≤ (ji27)) = true := decide_eq_true c28
                          clear c28
                          by_cases c29 : (ji27) < (y500.length : Int)
                          · rw [if_pos c29] at H
                            have c29b0 : decide ((ji27) < (y500.length : Int)) = true := decide_eq_true c29
                            clear c29
                            obtain ⟨y504, hy504⟩ : ∃ y_ : List (S32), y_ = (y500.set ((ji27) : Int).toNat (⟨(rd_T32 y500 (ji27)).f0, (rd_T32 y500 (ji27)).f1, wrap64 (((rd_T32 y500 (ji27)).f2) + 1), (rd_T32 y500 (ji27)).f3⟩ : S32)) := ⟨_, rfl⟩
                            replace H : ((some (([] : List (S32)) : List (S32))).bind fun y505 => (if (ji27) ≤ (t484.length : Int) then ((some (t484.take ((ji27) : Int).toNat : List (S32))).bind fun y508 => (if y505.length + y508.length < 4398046511104 then ((some (y505 ++ y508 : List (S32))).bind fun y512 => (if 0 ≤ (wrap64 ((ji27) + 1)) then (if (wrap64 ((ji27) + 1)) ≤ (t484.length : Int) then ((some (t484.drop ((wrap64 ((ji27) + 1)) : Int).toNat : List (S32))).bind fun y515 => (if y512.length + y515.length < 4398046511104 then ((impl_NetFits.f kj17 t483 t484 t493).bind fun t522 => (if t522 = true then ((impl_LoopCloses.f kj17 t483 y504).bind fun t523 => ((impl_NetWhole.f kj17 t483 (y512 ++ y515)).bind fun t524 => (some (t523 == (!t524))))) else (some false))) else (none))) else (none)) else (none))) else (none))) else (none))) = some r := by first | (rw [hy504]; with_reducible exact H) | (have H2_ := (Option.bind_some _ _).symm.trans H; rw [hy504]; with_reducible exact H2_) | (have H2_ := (Option.bind_some _ _).symm.trans H; with_reducible exact H2_) | with_reducible exact H | (rw [hy504]; exact H) | exact H
                            have Ny504 := Aside0.mk hy504
                            clear hy504
                            obtain ⟨y505, hy505⟩ : ∃ y_ : List (S32), y_ = (([] : List (S32))) := ⟨_, rfl⟩
                            replace H : (if (ji27) ≤ (t484.length : Int) then ((some (t484.take ((ji27) : Int).toNat : List (S32))).bind fun y508 => (if y505.length + y508.length < 4398046511104 then ((some (y505 ++ y508 : List (S32))).bind fun y512 => (if 0 ≤ (wrap64 ((ji27) + 1)) then (if (wrap64 ((ji27) + 1)) ≤ (t484.length : Int) then ((some (t484.drop ((wrap64 ((ji27) + 1)) : Int).toNat : List (S32))).bind fun y515 => (if y512.length + y515.length < 4398046511104 then ((impl_NetFits.f kj17 t483 t484 t493).bind fun t522 => (if t522 = true then ((impl_LoopCloses.f kj17 t483 y504).bind fun t523 => ((impl_NetWhole.f kj17 t483 (y512 ++ y515)).bind fun t524 => (some (t523 == (!t524))))) else (some false))) else (none))) else (none)) else (none))) else (none))) else (none)) = some r := by first | (rw [hy505]; with_reducible exact H) | (have H2_ := (Option.bind_some _ _).symm.trans H; rw [hy505]; with_reducible exact H2_) | (have H2_ := (Option.bind_some _ _).symm.trans H; with_reducible exact H2_) | with_reducible exact H | (rw [hy505]; exact H) | exact H
                            have Ny505 := Aside0.mk hy505
                            clear hy505
                            have c31b0 := eq_true (of_decide_eq_true qq3 : 0 ≤ (ji27))
                            by_cases c32 : (ji27) ≤ (t484.length : Int)
                            · rw [if_pos c32] at H
                              have c32b0 := eq_true c32
                              have c32b1 : decide ((ji27) ≤ (t484.length : Int)) = true := decide_eq_true c32
                              clear c32
                              obtain ⟨y508, hy508⟩ : ∃ y_ : List (S32), y_ = (t484.take ((ji27) : Int).toNat) := ⟨_, rfl⟩
                              replace H : (if y505.length + y508.length < 4398046511104 then ((some (y505 ++ y508 : List (S32))).bind fun y512 => (if 0 ≤ (wrap64 ((ji27) + 1)) then (if (wrap64 ((ji27) + 1)) ≤ (t484.length : Int) then ((some (t484.drop ((wrap64 ((ji27) + 1)) : Int).toNat : List (S32))).bind fun y515 => (if y512.length + y515.length < 4398046511104 then ((impl_NetFits.f kj17 t483 t484 t493).bind fun t522 => (if t522 = true then ((impl_LoopCloses.f kj17 t483 y504).bind fun t523 => ((impl_NetWhole.f kj17 t483 (y512 ++ y515)).bind fun t524 => (some (t523 == (!t524))))) else (some false))) else (none))) else (none)) else (none))) else (none)) = some r := by first | (rw [hy508]; with_reducible exact H) | (have H2_ := (Option.bind_some _ _).symm.trans H; rw [hy508]; with_reducible exact H2_) | (have H2_ := (Option.bind_some _ _).symm.trans H; with_reducible exact H2_) | with_reducible exact H | (rw [hy508]; exact H) | exact H
                              have Ny508 := Aside0.mk hy508
                              clear hy508
                              by_cases c33 : y505.length + y508.length < 4398046511104
                              · rw [if_pos c33] at H
                                have LMc33 := Aside0.mk c33
                                clear c33
                                obtain ⟨y512, hy512⟩ : ∃ y_ : List (S32), y_ = (y505 ++ y508) := ⟨_, rfl⟩
                                replace H : (if 0 ≤ (wrap64 ((ji27) + 1)) then (if (wrap64 ((ji27) + 1)) ≤ (t484.length : Int) then ((some (t484.drop ((wrap64 ((ji27) + 1)) : Int).toNat : List (S32))).bind fun y515 => (if y512.length + y515.length < 4398046511104 then ((impl_NetFits.f kj17 t483 t484 t493).bind fun t522 => (if t522 = true then ((impl_LoopCloses.f kj17 t483 y504).bind fun t523 => ((impl_NetWhole.f kj17 t483 (y512 ++ y515)).bind fun t524 => (some (t523 == (!t524))))) else (some false))) else (none))) else (none)) else (none)) = some r := by first | (rw [hy512]; with_reducible exact H) | (have H2_ := (Option.bind_some _ _).symm.trans H; rw [hy512]; with_reducible exact H2_) | (have H2_ := (Option.bind_some _ _).symm.trans H; with_reducible exact H2_) | with_reducible exact H | (rw [hy512]; exact H) | exact H
                                have Ny512 := Aside0.mk hy512
                                clear hy512
                                obtain ⟨ji34, hji34⟩ : ∃ j_ : Int, (wrap64 ((ji27) + 1)) = j_ := ⟨_, rfl⟩
                                replace H : (if 0 ≤ (ji34) then (if (ji34) ≤ (t484.length : Int) then ((some (t484.drop ((ji34) : Int).toNat : List (S32))).bind fun y515 => (if y512.length + y515.length < 4398046511104 then ((impl_NetFits.f kj17 t483 t484 t493).bind fun t522 => (if t522 = true then ((impl_LoopCloses.f kj17 t483 y504).bind fun t523 => ((impl_NetWhole.f kj17 t483 (y512 ++ y515)).bind fun t524 => (some (t523 == (!t524))))) else (some false))) else (none))) else (none)) else (none)) = some r := by first | (rw [hji34] at H; exact H) | (simp only [hji34] at H ⊢; exact H)
                                have hji34w : (IntKind.i64.wrap ((ji27) + 1)) = ji34 := (i64_w _).trans hji34
                                by_cases c35 : 0 ≤ (ji34)
                                · rw [if_pos c35] at H
                                  have c35b0 := eq_true c35
                                  have c35b1 : decide (0 ≤ (ji34)) = true := decide_eq_true c35
                                  clear c35
                                  by_cases c36 : (ji34) ≤ (t484.length : Int)
                                  · rw [if_pos c36] at H
                                    have c36b0 := eq_true c36
                                    have c36b1 : decide ((ji34) ≤ (t484.length : Int)) = true := decide_eq_true c36
                                    clear c36
                                    obtain ⟨y515, hy515⟩ : ∃ y_ : List (S32), y_ = (t484.drop ((ji34) : Int).toNat) := ⟨_, rfl⟩
                                    replace H : (if y512.length + y515.length < 4398046511104 then ((impl_NetFits.f kj17 t483 t484 t493).bind fun t522 => (if t522 = true then ((impl_LoopCloses.f kj17 t483 y504).bind fun t523 => ((impl_NetWhole.f kj17 t483 (y512 ++ y515)).bind fun t524 => (some (t523 == (!t524))))) else (some false))) else (none)) = some r := by first | (rw [hy515]; with_reducible exact H) | (have H2_ := (Option.bind_some _ _).symm.trans H; rw [hy515]; with_reducible exact H2_) | (have H2_ := (Option.bind_some _ _).symm.trans H; with_reducible exact H2_) | with_reducible exact H | (rw [hy515]; exact H) | exact H
                                    have Ny515 := Aside0.mk hy515
                                    clear hy515
                                    by_cases c37 : y512.length + y515.length < 4398046511104
                                    · rw [if_pos c37] at H
                                      have LMc37 := Aside0.mk c37
                                      clear c37
                                      obtain ⟨y519, hy519⟩ : ∃ y_ : List (S32), y_ = (y512 ++ y515) := ⟨_, rfl⟩
                                      replace H : ((impl_NetFits.f kj17 t483 t484 t493).bind fun t522 => (if t522 = true then ((impl_LoopCloses.f kj17 t483 y504).bind fun t523 => ((impl_NetWhole.f kj17 t483 y519).bind fun t524 => (some (t523 == (!t524))))) else (some false))) = some r := by first | (rw [hy519]; with_reducible exact H) | (have H2_ := (Option.bind_some _ _).symm.trans H; rw [hy519]; with_reducible exact H2_) | (have H2_ := (Option.bind_some _ _).symm.trans H; with_reducible exact H2_) | with_reducible exact H | (rw [hy519]; exact H) | exact H
                                      have Ny519 := Aside0.mk hy519
                                      clear hy519
                                      replace H := Option.bind_eq_some_iff.mp H
                                      obtain ⟨t522, A380, H⟩ := H
                                      replace H : (if t522 = true then ((impl_LoopCloses.f kj17 t483 y504).bind fun t523 => ((impl_NetWhole.f kj17 t483 y519).bind fun t524 => (some (t523 == (!t524))))) else (some false)) = some r := H
                                      have A38 := Aside0.mk A380
                                      clear A380
                                      by_cases c39 : t522 = true
                                      · subst c39
                                        have H1 : ((impl_LoopCloses.f kj17 t483 y504).bind fun t523 => ((impl_NetWhole.f kj17 t483 y519).bind fun t524 => (some (t523 == (!t524))))) = some r := by rw [if_pos rfl] at H; exact H
                                        clear H
                                        have H := H1
                                        clear H1
                                        replace H := Option.bind_eq_some_iff.mp H
                                        obtain ⟨t523, A400, H⟩ := H
                                        replace H : ((impl_NetWhole.f kj17 t483 y519).bind fun t524 => (some (t523 == (!t524)))) = some r := H
                                        have A40 := Aside0.mk A400
                                        clear A400
                                        replace H := Option.bind_eq_some_iff.mp H
                                        obtain ⟨t524, A410, H⟩ := H
                                        replace H : (some (t523 == (!t524))) = some r := H
                                        have A41 := Aside0.mk A410
                                        clear A410
                                        obtain rfl := Option.some.inj H
                                        try go_wp2_with (first | ((with_reducible refine gate_dst (N := 74) rfl ?_); (try (refine gate_guard (by rfl) ?_; dsimp only)); refine Kd.R_lit k32 _ 32 ?hg (N := 74) ?hd (xs := ([] : List (S32))) (inner := []) (ok := fun _ => True) (okp := fun _ => True) ?hr ?hp (fun _ hk => hk) trivial (Below.refl _ _) (Nat.le_refl _) (by simp) ?_; (case hd => rfl); (case hg => rfl); (case hr => exact qq16); (case hp => exact (Reps.none _ _)); intro v498 w42 ho43 hb hg_ hnew_; clear hg_ hnew_; (first | rw [← Ny497.out] at ho43 | (simp only [Int.reduceToNat] at ho43; rw [← Ny497.out] at ho43)); have n0_ := Aside0.mk (Kd.R_elder' (qq2 HO_6.out) (Kd.R_base ho43) hb); have n1_ := Aside0.mk (Kd.R_below (qq2 HO_11.out) hb); have n2_ := Aside0.mk (Kd.R_lower (Kd.R_new' ho43 (Kd.R_lt (qq2 HO_6.out))) (below_size qq1)); have n3_ := Aside0.mk (below_step qq1 hb); clear HO_6; clear HO_11; clear HB; have HO_6 := n0_; have HO_11 := n1_; have HO499 := n2_; have HB := n3_; clear n0_ n1_ n2_ n3_; clear hb ho43) | ((with_reducible refine gate_builtin (b := .append) (xs := #[.tmp 74, .tmp 75]) rfl ?_); (try (refine gate_guard (by rfl) ?_; dsimp only)); at_builtin; refine Kd.R_append_rows k32 (w0 := w) w.heap.size rfl (.tmp 74) (.tmp 75) 23 32 (.agg #[(.int .i64 0), (.int .i64 0), (.int .i64 0), (.int .i64 0)]) 32 rfl Try.underlying23 info32 rfl (by decide) (by omega) v498 y497 t484 _ _ _ (fun k_ => some k_ ≠ (.slice Ao11 t484.length co11 : Value).ownBlock) (fun _ => False) rfl rfl ?aO ?aR (fun _ _ h => h) (fun _ h => h.elim) ?aF ?aB ?aS ?aL ?_; (case aR => exact qq12 HO_6.out); (case aB => exact qq1); (case aF => exact qq55 HO_6.out); (case aO => exact (qq32 HO499.out)); (case aS => exact (below_size qq1)); (case aL => have := LMc26.out; omega); intro v501 w44 ho hb hg hat; rw [← Ny500.out] at ho; have n0_ := Aside0.mk (Kd.R_after (ok := (fun _ => True)) (qq2 HO_6.out) hg hat); have n1_ := Aside0.mk (Kd.R_over' (qq2 HO_11.out) (Kd.R_typed (qq2 HO499.out)) (by decide) hg); have n2_ := Aside0.mk (hb); have n3_ := Aside0.mk (ho); clear HO_6; clear HO_11; clear HB; clear HO499; have HO_6 := n0_; have HO_11 := n1_; have HB := n2_; have HO502 := n3_; clear n0_ n1_ n2_ n3_; clear ho hb hg hat; obtain ⟨Ao45, co45, eo45⟩ := Kd.R_slice HO502.out; subst eo45; have p503 : 0 ≤ ((ji27) : Int) := of_decide_eq_true qq3; have q503 : (ji27) < (y500.length : Int) := of_decide_eq_true qq3; obtain ⟨ad503, e503, hx503_0, hx503_1, hx503_2, hx503_3⟩ := at_T32 (Kd.R_reads' HO502.out).2.2 (ji27) p503 q503; cases e503; replace p503 := eq_true p503; replace q503 := eq_true q503; have p30 : 0 ≤ ((ji27) : Int) := of_decide_eq_true qq3; have q30 : ((ji27) : Int) < ((y500.length : Int) : Int) := of_decide_eq_true qq3; obtain ⟨go30, co30, eo30, gb30, gl30, cl30, HG30⟩ := Kd.R_form HO502.out (by omega); (first | cases eo30 | (injection eo30 with ea_ en_ ec_; (first | subst ea_ | (injection ea_ with ea_; subst ea_)); subst ec_; clear en_)); have GB30 := Aside0.mk gb30; have GG30 := Aside0.mk HG30; clear gb30 gl30 HG30; (first | simp only [add_plain] at hx503_0 | skip); (first | simp only [add_plain] at hx503_1 | skip); (first | simp only [add_plain] at hx503_2 | skip); (first | simp only [add_plain] at hx503_3 | skip); obtain ⟨ce30, hcl30, hM30, hcc30, hfr30⟩ := Kd.R_elem HO502.out z32 ((ji27) : Int) p30 q30; obtain rfl := k32_openM hM30; have hx30_0 : w44.cell? ⟨go30, ((ji27) : Int).toNat * 4, none⟩ = some (.int .i64 ((rd_T32 y500 (ji27)).f0)) := hcc30 0 _ rfl; have hx30_1 : w44.cell? ⟨go30, ((ji27) : Int).toNat * 4 + 1, none⟩ = some (.int .i64 ((rd_T32 y500 (ji27)).f1)) := hcc30 1 _ rfl; have hx30_2 : w44.cell? ⟨go30, ((ji27) : Int).toNat * 4 + 2, none⟩ = some (.int .i64 ((rd_T32 y500 (ji27)).f2)) := hcc30 2 _ rfl; have hx30_3 : w44.cell? ⟨go30, ((ji27) : Int).toNat * 4 + 3, none⟩ = some (.int .i64 ((rd_T32 y500 (ji27)).f3)) := hcc30 3 _ rfl; have hf30_0 : w44.frozen? ⟨go30, ((ji27) : Int).toNat * 4, none⟩ = false := hfr30 0; have hf30_1 : w44.frozen? ⟨go30, ((ji27) : Int).toNat * 4 + 1, none⟩ = false := hfr30 1; have hf30_2 : w44.frozen? ⟨go30, ((ji27) : Int).toNat * 4 + 2, none⟩ = false := hfr30 2; have hf30_3 : w44.frozen? ⟨go30, ((ji27) : Int).toNat * 4 + 3, none⟩ = false := hfr30 3; clear hcl30 hcc30 hfr30; (try clear hM30); replace p30 := eq_true p30; replace q30 := eq_true q30; have HX46 := Aside0.mk (show Kd.R k32 32 w44 w.heap.size (fun k_ => some k_ ≠ (.slice Ao11 t484.length co11 : Value).ownBlock) (.slice (some ⟨go30, 0, none⟩) y500.length co45) y500 from (qq2 HO502.out)); obtain ⟨ce46, hcl46, hM46, hcc46, hfr46⟩ := Kd.R_elem HX46.out z32 ((ji27) : Int) (of_decide_eq_true qq3) (by have h_ : ((ji27) : Int) < ((y500.length : Int) : Int) := of_decide_eq_true qq3; first | exact h_ | (have e_ := (Kd.R_reads' HO502.out).1; omega) | simpa using h_); obtain rfl := k32_openM hM46; have HP46 := Kd.R_seg HX46.out ((ji27) : Int) (of_decide_eq_true qq3) (by have h_ : ((ji27) : Int) < ((y500.length : Int) : Int) := of_decide_eq_true qq3; first | exact h_ | (have e_ := (Kd.R_reads' HO502.out).1; omega) | simpa using h_) (seg := [.int .i64 (wrap64 (((rd_T32 y500 (ji27)).f2) + 1))]) (j := 2) hcl46 hcc46 (show 3 ≤ 4 from by decide) (x' := (⟨(rd_T32 y500 (ji27)).f0, (rd_T32 y500 (ji27)).f1, wrap64 (((rd_T32 y500 (ji27)).f2) + 1), (rd_T32 y500 (ji27)).f3⟩ : S32)) (k32_mkM _ _ _ (⟨(rd_T32 y500 (ji27)).f0, (rd_T32 y500 (ji27)).f1, wrap64 (((rd_T32 y500 (ji27)).f2) + 1), (rd_T32 y500 (ji27)).f3⟩ : S32) ) (fun _ hk => hk); have hx46_2 := hcc46 2 _ rfl; (try simp only [show (k32).sz = 4 from rfl, Nat.mul_one, Nat.add_zero] at hx46_2); have hf46_2 := hfr46 2; (try simp only [show (k32).sz = 4 from rfl, Nat.mul_one, Nat.add_zero] at hf46_2); clear hcl46 hcc46 hfr46; (try clear hM46)) | ((with_reducible refine gate_store (t := 3) (p := 86) rfl ?_); refine store_event (t := 3) (p := 86) (v := ?vo_w47) (w1 := (w44.setCell ⟨go30, ((ji27) : Int).toNat * 4 + 2, none⟩ (.int .i64 (wrap64 (((rd_T32 y500 (ji27)).f2) + 1))))) ?hg ?ho ?hn ?hr ?_; (case ho => rfl); (case hg => rfl); (case hn => rfl); (case hr => exact qq16); intro w47 hw; have hg : w44.grownBy w47 (some go30) := (by rw [hw]; exact HP46.2); have hp_ : Kd.R k32 32 w47 w.heap.size (fun k_ => some k_ ≠ (.slice Ao11 t484.length co11 : Value).ownBlock) (.slice (some ⟨go30, 0, none⟩) y500.length co45) y504 := (by rw [hw, Ny504.out]; exact HP46.1); clear HP46; have n0_ := Aside0.mk (Kd.R_after (v := (.slice (some ⟨go30, 0, none⟩) y500.length co45)) (v1 := (.slice (some ⟨go30, 0, none⟩) y500.length co45)) (ok := (fun _ => True)) (qq2 HO_6.out) hg (.inl rfl)); have n1_ := Aside0.mk (Kd.R_over' (v := (.slice (some ⟨go30, 0, none⟩) y500.length co45)) (qq2 HO_11.out) (Kd.R_typed HO502.out) (by decide) hg); have n2_ := Aside0.mk (hp_); have n3_ := Aside0.mk ((by rw [hw]; exact below_set (HB.out) GB30.out : Below w.heap.size w w47)); clear HO_6; clear HO_11; clear HO502; clear HB; have HO_6 := n0_; have HO_11 := n1_; have HO502 := n2_; have HB := n3_; clear n0_ n1_ n2_ n3_; clear hg hw hp_))
                                        have n0_ := Aside0.mk (Kd.R_drew HO_6.out)
                                        have n1_ := Aside0.mk (Kd.R_drew HO_11.out)
                                        have n2_ := Aside0.mk (Kd.R_drew HO502.out)
                                        have n3_ := Aside0.mk (below_drew1 HB.out)
                                        clear HO_6
                                        clear HO_11
                                        clear HO502
                                        clear HB
                                        have HO_6 := n0_
                                        have HO_11 := n1_
                                        have HO502 := n2_
                                        have HB := n3_
                                        clear n0_ n1_ n2_ n3_
                                        have q49 : ((ji27) : Int) ≤ ((t484.length : Int) : Int) := of_decide_eq_true qq3
                                        obtain ⟨i049, hi049, _, hsz49, _⟩ := info_parts info32
                                        have hroom49 : t484.length ≤ co11 := (Kd.R_reads' HO_6.out).2.1
                                        have hC49 : Kd.C k32 _ Ao11 t484.length t484 := (Kd.R_reads' HO_6.out).2.2
                                        have hcut49 := cut_to (P := Try.prog) 23 32 .i64 Try.underlying23 hi049 Ao11 t484.length co11 (ji27) (of_decide_eq_true qq3) q49 hroom49
                                        have hr49 := Kd.C_take (m := ((ji27) : Int).toNat) hC49 (by omega)
                                        have hy49 : y508.length = ((ji27) : Int).toNat := (by rw [Ny508.out, List.length_take]; omega)
                                        rw [← Ny508.out] at hr49
                                        rw [← hy49] at hcut49
                                        have HR511 := Aside0.mk hr49
                                        have HC511 := Aside0.mk (show y508.length ≤ co11 from by omega)
                                        clear hr49 hC49 hroom49 hi049 hsz49
                                        have KY49 := Aside0.mk hy49
                                        clear hy49
                                        have KL49 := Aside0.mk (show ((ji27) : Int).toNat ≤ t484.length from by omega)
                                        replace q49 := eq_true q49
                                        have q50 : ((ji34) : Int) ≤ ((t484.length : Int) : Int) := of_decide_eq_true qq3
                                        obtain ⟨i050, hi050, _, hsz50, _⟩ := info_parts info32
                                        have hroom50 : t484.length ≤ co11 := (Kd.R_reads' HO_6.out).2.1
                                        have hC50 : Kd.C k32 _ Ao11 t484.length t484 := (Kd.R_reads' HO_6.out).2.2
                                        have q050 : (0 : Int) ≤ ((ji34) : Int) := of_decide_eq_true qq3
                                        have hcut50 := cut_from (P := Try.prog) 23 32 .i64 Try.underlying23 hi050 4 hsz50 Ao11 t484.length co11 (ji34) q050 q50
                                        have hr50 := Kd.C_drop (m := ((ji34) : Int).toNat) (c := co11) hC50 (by omega) hroom50
                                        obtain ⟨A50, hA50⟩ : ∃ Az_, Az_ = (if co11 = ((ji34) : Int).toNat then Ao11 else (Ao11 : Option Addr).map (·.add (((ji34) : Int).toNat * 4))) := ⟨_, rfl⟩
                                        obtain ⟨c50, hc50⟩ : ∃ cz_, cz_ = co11 - ((ji34) : Int).toNat := ⟨_, rfl⟩
                                        have hy50 : y515.length = t484.length - ((ji34) : Int).toNat := (by rw [Ny515.out, List.length_drop] <;> omega)
                                        rw [show (t484).drop ((ji34) : Int).toNat = y515 from Ny515.out.symm] at hr50
                                        replace hr50 : Kd.C k32 _ A50 y515.length y515 := (by rw [hA50]; exact hr50)
                                        rw [← hy50, ← hA50, ← hc50] at hcut50
                                        have HR518 := Aside0.mk hr50
                                        have HC518 := Aside0.mk (show y515.length ≤ c50 from by rw [hy50, hc50]; exact Nat.sub_le_sub_right hroom50 _)
                                        clear hr50 hC50 hroom50 hi050 hsz50 hc50
                                        have KY50 := Aside0.mk hy50
                                        have KA50 := Aside0.mk hA50
                                        clear hy50 hA50
                                        have KL50 := Aside0.mk (show ((ji34) : Int).toNat ≤ t484.length from by omega)
                                        replace q50 := eq_true q50
                                        refine start_ (n := 11) (S := fun w' => True) (ds := []) #[false, false, false, false, false, false, false, false, false, false, false] (by kernel_rfl) rfl rfl trivial (fun hHeld => ?_); refine with_tabW laws_FnLoopCloses.tab15 laws_FnLoopCloses.bits15 (fun HT_ HW_ => ?_)
                                        generalize w47.drew = w48 at HO_6 HO_11 HO502 HB HR511 HR518 hHeld ⊢
                                        refine pure_ (i := 1) (N := some 88) #[false, true, false, false, false, false, false, false, false, false, false] rfl rfl (any_of HT_.out (by kernel_rfl)) (fun _ _ _ h => h) (Or.inl ⟨by rfl, pA_⟩) pB_ ?_
                                        refine pure_ (i := 2) (N := some 89) #[false, true, true, false, false, false, false, false, false, false, false] rfl rfl (any_of HT_.out (by kernel_rfl)) (fun _ _ _ h => h) (Or.inl ⟨by rfl, pA_⟩) pB_ ?_
                                        refine pure_ (i := 3) (N := some 90) #[false, true, true, true, false, false, false, false, false, false, false] rfl rfl (any_of HT_.out (by kernel_rfl)) (fun _ _ _ h => h) (Or.inl ⟨by rfl, pA_⟩) pB_ ?_
                                        refine pure_ (i := 5) (N := some 92) #[false, true, true, true, false, true, false, false, false, false, false] rfl rfl (any_of HT_.out (by kernel_rfl)) (fun _ _ _ h => h) (Or.inl ⟨by rfl, pA_⟩) pB_ ?_
                                        refine pure_ (i := 6) (N := some 93) #[false, true, true, true, false, true, true, false, false, false, false] rfl rfl (any_of HT_.out (by kernel_rfl)) (fun _ _ _ h => h) (Or.inl ⟨by rfl, pA_⟩) pB_ ?_
                                        refine pure_ (i := 7) (N := some 94) #[false, true, true, true, false, true, true, true, false, false, false] rfl rfl (any_of HT_.out (by kernel_rfl)) (fun _ _ _ h => h) (Or.inl ⟨by rfl, pA_⟩) pB_ ?_
                                        refine pure_ (i := 8) (N := some 95) #[false, true, true, true, false, true, true, true, true, false, false] rfl rfl (any_of HT_.out (by kernel_rfl)) (fun _ _ _ h => h) (Or.inl ⟨by rfl, pA_⟩) pB_ ?_
                                        refine one_ (i := 0) (N := some 87) #[true, true, true, true, false, true, true, true, true, false, false] rfl rfl (one_of HT_.out (by kernel_rfl)) (by decide) (fun K hK => ?_)
                                        refine Kd.R_lit_step k32 _ 32 ?hg (N := 87) ?hd (xs := ([] : List (S32))) (inner := []) (ok := fun _ => True) (okp := fun _ => True) ?hr ?hp (fun _ hk => hk) trivial (Below.refl _ _) (Nat.le_refl _) (by simp) ?_; (case hd => rfl); (case hg => rfl); (case hr => exact qq16); (case hp => exact (Reps.none _ _))
                                        intro v506 w51 ho52 hb hg_ hnew_
                                        clear hg_ hnew_
                                        (first | rw [← Ny505.out] at ho52 | (simp only [Int.reduceToNat] at ho52; rw [← Ny505.out] at ho52))
                                        have n0_ := Aside0.mk (Kd.R_elder' (qq2 HO_6.out) (Kd.R_base ho52) hb)
                                        have n1_ := Aside0.mk (Kd.R_below (qq2 HO_11.out) hb)
                                        have n2_ := Aside0.mk (Kd.R_elder' (qq2 HO502.out) (Kd.R_base ho52) hb)
                                        have n3_ := Aside0.mk (Kd.R_lower (Kd.R_new' (Kd.R_new' ho52 (Kd.R_lt (qq2 HO_6.out))) (Kd.R_lt (qq2 HO502.out))) (below_size qq1))
                                        have n4_ := Aside0.mk (Kd.C_below (qq22 HR511.out) hb)
                                        have n5_ := Aside0.mk (Kd.C_below (qq22 HR518.out) hb)
                                        have n6_ := Aside0.mk (below_step qq1 hb)
                                        clear HO_6
                                        clear HO_11
                                        clear HO502
                                        clear HR511
                                        clear HR518
                                        clear HB
                                        have HO_6 := n0_
                                        have HO_11 := n1_
                                        have HO502 := n2_
                                        have HO507 := n3_
                                        have HR511 := n4_
                                        have HR518 := n5_
                                        have HB := n6_
                                        clear n0_ n1_ n2_ n3_ n4_ n5_ n6_
                                        clear hb ho52
                                        refine hK.out _ _ trivial (fun hHeld => ?_)
                                        clear hK K
                                        refine norm_ (a' := ?_) ?_ ?_
                                        rotate_left
                                        · show Act.put _ (some 87) _ = _
                                          simp only [Act.put, List.setIfInBounds_toArray, List.set_cons_zero, List.set_cons_succ, i64_w, i32_w]
                                          rfl
                                        refine one_ (i := 4) (N := some 91) #[true, true, true, true, true, true, true, true, true, false, false] rfl rfl (one_of HT_.out (by kernel_rfl)) (by decide) (fun K hK => ?_)
                                        refine Kd.R_append_rows_step k32 (w0 := w) w.heap.size (by rfl) (.tmp 87) (.tmp 90) 23 32 (.agg #[(.int .i64 0), (.int .i64 0), (.int .i64 0), (.int .i64 0)]) 32 rfl Try.underlying23 info32 rfl (by decide) (by omega) v506 y505 y508 _ _ _ (fun k_ => some k_ ≠ (.slice Ao11 t484.length co11 : Value).ownBlock ∧ some k_ ≠ (.slice (some ⟨go30, 0, none⟩) y500.length co45 : Value).ownBlock) (fun _ => False) rfl rfl ?aO ?aR (fun _ _ h => h) (fun _ h => h.elim) ?aF ?aB ?aS ?aL ?_
                                        (case aR => repeat (first | exact (qq22 HR511.out) | (with_reducible refine Kd.C_alloc ?_ _) | (with_reducible refine Kd.C_drewN ?_ _) | (with_reducible refine Kd.C_drew ?_)))
                                        (case aB => exact qq1)
                                        (case aF => exact qq71 HO_6.out HO502.out)
                                        (case aO => exact (qq24 HO507.out))
                                        (case aS => exact (below_size qq1))
                                        (case aL => have := LMc33.out; omega)
                                        intro v513 w53 ho hb hg hat
                                        rw [← Ny512.out] at ho
                                        have n0_ := Aside0.mk (Kd.R_after (ok := (fun k_ => some k_ ≠ (.slice (some ⟨go30, 0, none⟩) y500.length co45 : Value).ownBlock)) (qq24 HO_6.out) hg hat)
                                        have n1_ := Aside0.mk (Kd.R_over' (qq2 HO_11.out) (Kd.R_typed (qq2 HO507.out)) (by decide) hg)
                                        have n2_ := Aside0.mk (Kd.R_after (ok := (fun k_ => some k_ ≠ (.slice Ao11 t484.length co11 : Value).ownBlock)) (qq2 HO502.out) hg hat)
                                        have n3_ := Aside0.mk (hb)
                                        have n4_ := Aside0.mk ((show Kd.C k32 w53 Ao11 y508.length y508 from by rw [Ny508.out]; exact Kd.C_take (m := ((ji27) : Int).toNat) ((Kd.R_reads' (Kd.R_after (ok := (fun k_ => some k_ ≠ (.slice (some ⟨go30, 0, none⟩) y500.length co45 : Value).ownBlock)) (qq24 HO_6.out) hg hat)).2.2) KL49.out))
                                        have n5_ := Aside0.mk ((show Kd.C k32 w53 A50 y515.length y515 from by rw [Ny515.out, KA50.out]; exact Kd.C_drop (m := ((ji34) : Int).toNat) (c := co11) ((Kd.R_reads' (Kd.R_after (ok := (fun k_ => some k_ ≠ (.slice (some ⟨go30, 0, none⟩) y500.length co45 : Value).ownBlock)) (qq24 HO_6.out) hg hat)).2.2) KL50.out ((Kd.R_reads' (Kd.R_after (ok := (fun k_ => some k_ ≠ (.slice (some ⟨go30, 0, none⟩) y500.length co45 : Value).ownBlock)) (qq24 HO_6.out) hg hat)).2.1)))
                                        have n6_ := Aside0.mk (ho)
                                        clear HO_6
                                        clear HO_11
                                        clear HO502
                                        clear HB
                                        clear HR511
                                        clear HR518
                                        clear HO507
                                        have HO_6 := n0_
                                        have HO_11 := n1_
                                        have HO502 := n2_
                                        have HB := n3_
                                        have HR511 := n4_
                                        have HR518 := n5_
                                        have HO514 := n6_
                                        clear n0_ n1_ n2_ n3_ n4_ n5_ n6_
                                        clear ho hb hg hat
                                        refine hK.out _ _ trivial (fun hHeld => ?_)
                                        clear hK K
                                        refine norm_ (a' := ?_) ?_ ?_
                                        rotate_left
                                        · show Act.put _ (some 91) _ = _
                                          simp only [Act.put, List.setIfInBounds_toArray, List.set_cons_zero, List.set_cons_succ, i64_w, i32_w]
                                          rfl
                                        refine one_ (i := 9) (N := some 96) #[true, true, true, true, true, true, true, true, true, true, false] rfl rfl (one_of HT_.out (by kernel_rfl)) (by decide) (fun K hK => ?_)
                                        refine Kd.R_append_rows_step k32 (w0 := w) w.heap.size (by rfl) (.tmp 91) (.tmp 95) 23 32 (.agg #[(.int .i64 0), (.int .i64 0), (.int .i64 0), (.int .i64 0)]) 32 rfl Try.underlying23 info32 rfl (by decide) (by omega) v513 y512 y515 _ _ _ (fun k_ => some k_ ≠ (.slice Ao11 t484.length co11 : Value).ownBlock ∧ some k_ ≠ (.slice (some ⟨go30, 0, none⟩) y500.length co45 : Value).ownBlock) (fun _ => False) rfl rfl ?aO ?aR (fun _ _ h => h) (fun _ h => h.elim) ?aF ?aB ?aS ?aL ?_
                                        (case aR => repeat (first | exact (qq22 HR518.out) | (with_reducible refine Kd.C_alloc ?_ _) | (with_reducible refine Kd.C_drewN ?_ _) | (with_reducible refine Kd.C_drew ?_)))
                                        (case aB => exact qq1)
                                        (case aF => exact qq71 HO_6.out HO502.out)
                                        (case aO => exact (qq2 HO514.out))
                                        (case aS => exact (below_size qq1))
                                        (case aL => have := LMc37.out; omega)
                                        intro v520 w54 ho hb hg hat
                                        rw [← Ny519.out] at ho
                                        have n0_ := Aside0.mk (Kd.R_after (ok := (fun k_ => some k_ ≠ (.slice (some ⟨go30, 0, none⟩) y500.length co45 : Value).ownBlock)) (qq2 HO_6.out) hg hat)
                                        have n1_ := Aside0.mk (Kd.R_over' (qq2 HO_11.out) (Kd.R_typed (qq2 HO514.out)) (by decide) hg)
                                        have n2_ := Aside0.mk (Kd.R_after (ok := (fun k_ => some k_ ≠ (.slice Ao11 t484.length co11 : Value).ownBlock)) (qq2 HO502.out) hg hat)
                                        have n3_ := Aside0.mk (hb)
                                        have n4_ := Aside0.mk ((show Kd.C k32 w54 Ao11 y508.length y508 from by rw [Ny508.out]; exact Kd.C_take (m := ((ji27) : Int).toNat) ((Kd.R_reads' (Kd.R_after (ok := (fun k_ => some k_ ≠ (.slice (some ⟨go30, 0, none⟩) y500.length co45 : Value).ownBlock)) (qq2 HO_6.out) hg hat)).2.2) KL49.out))
                                        have n5_ := Aside0.mk ((show Kd.C k32 w54 A50 y515.length y515 from by rw [Ny515.out, KA50.out]; exact Kd.C_drop (m := ((ji34) : Int).toNat) (c := co11) ((Kd.R_reads' (Kd.R_after (ok := (fun k_ => some k_ ≠ (.slice (some ⟨go30, 0, none⟩) y500.length co45 : Value).ownBlock)) (qq2 HO_6.out) hg hat)).2.2) KL50.out ((Kd.R_reads' (Kd.R_after (ok := (fun k_ => some k_ ≠ (.slice (some ⟨go30, 0, none⟩) y500.length co45 : Value).ownBlock)) (qq2 HO_6.out) hg hat)).2.1)))
                                        have n6_ := Aside0.mk (ho)
                                        clear HO_6
                                        clear HO_11
                                        clear HO502
                                        clear HB
                                        clear HR511
                                        clear HR518
                                        clear HO514
                                        have HO_6 := n0_
                                        have HO_11 := n1_
                                        have HO502 := n2_
                                        have HB := n3_
                                        have HR511 := n4_
                                        have HR518 := n5_
                                        have HO521 := n6_
                                        clear n0_ n1_ n2_ n3_ n4_ n5_ n6_
                                        clear ho hb hg hat
                                        refine hK.out _ _ trivial (fun hHeld => ?_)
                                        clear hK K
                                        refine norm_ (a' := ?_) ?_ ?_
                                        rotate_left
                                        · show Act.put _ (some 96) _ = _
                                          simp only [Act.put, List.setIfInBounds_toArray, List.set_cons_zero, List.set_cons_succ, i64_w, i32_w]
                                          rfl
                                        refine pure_ (i := 10) (N := some 15) #[true, true, true, true, true, true, true, true, true, true, true] rfl rfl (any_of HT_.out (by kernel_rfl)) (fun _ _ _ h => h) (Or.inl ⟨by rfl, pA_⟩) pB_ ?_
                                        refine done_ (done_of HT_.out (by kernel_rfl)) ?_
                                        obtain ⟨Ao55, co55, eo55⟩ := Kd.R_slice HO_11.out
                                        subst eo55
                                        try go_wp2_with (first | ((with_reducible refine gate_callee (f := 12) rfl ?_); refine goesL_ (some 100) rfl rfl Try.func12 (by kernel_rfl) rfl #[.int .i64 t483, .slice Ao11 t484.length co11, .slice Ao55 t493.length co55] rfl qq5 ?_; (with_reducible refine (impl_NetFits.calls kj17 t483 _ _ t484 _ _ t493 true _ ?side1 ?side2 ?side3 ?side4 A38.out).mono ?_); (case side1 => exact qq12 HO_6.out); (case side2 => exact qq52 HO_6.out); (case side3 => exact qq12 HO_11.out); (case side4 => exact qq52 HO_11.out); rintro e w56 ⟨rfl, hb⟩; refine ⟨_, rfl, ?_⟩; have n0_ := Aside0.mk (Kd.R_below (qq2 HO_6.out) hb); have n1_ := Aside0.mk (Kd.R_below (qq2 HO_11.out) hb); have n2_ := Aside0.mk (Kd.R_below (qq2 HO502.out) hb); have n3_ := Aside0.mk (Kd.R_below (qq2 HO521.out) hb); have n4_ := Aside0.mk (Kd.C_below (qq22 HR511.out) hb); have n5_ := Aside0.mk (Kd.C_below (qq22 HR518.out) hb); have n6_ := Aside0.mk (below_step qq1 hb); clear HO_6; clear HO_11; clear HO502; clear HO521; clear HR511; clear HR518; clear HB; have HO_6 := n0_; have HO_11 := n1_; have HO502 := n2_; have HO521 := n3_; have HR511 := n4_; have HR518 := n5_; have HB := n6_; clear n0_ n1_ n2_ n3_ n4_ n5_ n6_; (try clear hb); (try clear hb2); (try clear hk); (try clear hi)) | (go_at_call 8; refine calls_of_args (args' := #[.int .i64 t483, .slice (some ⟨go30, 0, none⟩) y504.length co45]) (by first | (rw [show y504.length = y500.length from (Kd.R_reads' HO502.out).1.symm] <;> rfl) | rfl) ?_; (with_reducible refine (impl_LoopCloses.calls kj17 t483 _ _ y504 t523 _ ?side1 ?side2 A40.out).mono ?_); (case side1 => exact qq12 HO502.out); (case side2 => rw [show y504.length = y500.length from (Kd.R_reads' HO502.out).1.symm]; exact (Kd.R_reads' HO502.out).2.1); rintro e w57 ⟨rfl, hb⟩; have n0_ := Aside0.mk (Kd.R_below (qq2 HO_6.out) hb); have n1_ := Aside0.mk (Kd.R_below (qq2 HO_11.out) hb); have n2_ := Aside0.mk (Kd.R_below (qq2 HO502.out) hb); have n3_ := Aside0.mk (Kd.R_below (qq2 HO521.out) hb); have n4_ := Aside0.mk (Kd.C_below (qq22 HR511.out) hb); have n5_ := Aside0.mk (Kd.C_below (qq22 HR518.out) hb); have n6_ := Aside0.mk (below_step qq1 hb); clear HO_6; clear HO_11; clear HO502; clear HO521; clear HR511; clear HR518; clear HB; have HO_6 := n0_; have HO_11 := n1_; have HO502 := n2_; have HO521 := n3_; have HR511 := n4_; have HR518 := n5_; have HB := n6_; clear n0_ n1_ n2_ n3_ n4_ n5_ n6_; (try clear hb); (try clear hb2); (try clear hk); (try clear hi); obtain ⟨Ao58, co58, eo58⟩ := Kd.R_slice HO521.out; subst eo58) | (go_at_call 13; (with_reducible refine (impl_NetWhole.calls kj17 t483 _ _ y519 t524 _ ?side1 ?side2 A41.out).mono ?_); (case side1 => exact qq12 HO521.out); (case side2 => exact qq52 HO521.out); rintro e w59 ⟨rfl, hb⟩; have n0_ := Aside0.mk (Kd.R_below (qq2 HO_6.out) hb); have n1_ := Aside0.mk (Kd.R_below (qq2 HO_11.out) hb); have n2_ := Aside0.mk (Kd.R_below (qq2 HO502.out) hb); have n3_ := Aside0.mk (Kd.R_below (qq2 HO521.out) hb); have n4_ := Aside0.mk (Kd.C_below (qq22 HR511.out) hb); have n5_ := Aside0.mk (Kd.C_below (qq22 HR518.out) hb); have n6_ := Aside0.mk (below_step qq1 hb); clear HO_6; clear HO_11; clear HO502; clear HO521; clear HR511; clear HR518; clear HB; have HO_6 := n0_; have HO_11 := n1_; have HO502 := n2_; have HO521 := n3_; have HR511 := n4_; have HR518 := n5_; have HB := n6_; clear n0_ n1_ n2_ n3_ n4_ n5_ n6_; (try clear hb); (try clear hb2); (try clear hk); (try clear hi)))
                                        go_ret
                                        exact ⟨by first | rfl | (simp [errW_none, errW_some] <;> rfl) | (simp only [← hji27, ← hji34]; first | rfl | (simp [errW_none, errW_some] <;> rfl)) | (simp [*, errW_none, errW_some] <;> rfl), qq1⟩
                                      · replace c39 := Bool.eq_false_iff.mpr c39
                                        subst c39
                                        have H1 : (some false) = some r := by rw [if_neg (show ¬ (false = true) by decide)] at H; exact H
                                        clear H
                                        have H := H1
                                        clear H1
                                        exact absurd ((Option.some.inj H).trans hT.out) (by decide)
                                    · rw [if_neg c37] at H
                                      exact absurd H (by simp)
                                  · rw [if_neg c36] at H
                                    exact absurd H (by simp)
                                · rw [if_neg c35] at H
                                  exact absurd H (by simp)
                              · rw [if_neg c33] at H
                                exact absurd H (by simp)
                            · rw [if_neg c32] at H
                              exact absurd H (by simp)
                          · rw [if_neg c29] at H
                            exact absurd H (by simp)
                        · rw [if_neg c28] at H
                          exact absurd H (by simp)
                      · rw [if_neg c26] at H
                        exact absurd H (by simp)

/-- THE ONE PURE STATEMENT of laws_FnLoopCloses: yours. -/
def laws_FnLoopCloses.Pure : Prop := ∀ (l0 : List Int) (l1 : List Int), l0.length ≤ maxLen → l0.length * 1 ≤ 140737488351232 → (∀ x ∈ l0, (Lit.int .u8 x).wf = true) → l1.length ≤ maxLen → l1.length * 1 ≤ 140737488351232 → (∀ x ∈ l1, (Lit.int .u8 x).wf = true) → ∃ k, laws_FnLoopCloses.f k l0 l1 = some true
theorem laws_FnLoopCloses.walk (P : laws_FnLoopCloses.Pure) (a0 : Option Addr) (len0 cap0 : Nat) (z0 : List Int) (a1 : Option Addr) (len1 cap1 : Nat) (z1 : List Int) (w : World) (w0 : (a0 = none ∧ len0 = 0 ∧ cap0 = 0 ∧ z0 = []) ∨ ∃ x, a0 = some x ∧ len0 ≤ cap0 ∧ cap0 ≤ maxLen ∧ z0.length = cap0 ∧ (∀ i, i < z0.length → w.cell? (x.add i) = some (.int .u8 (z0.getD i 0))) ∧ ∀ n ∈ z0, (Lit.int .u8 n).wf = true) (y0 : len0 * 1 ≤ 140737488351232) (w1 : (a1 = none ∧ len1 = 0 ∧ cap1 = 0 ∧ z1 = []) ∨ ∃ x, a1 = some x ∧ len1 ≤ cap1 ∧ cap1 ≤ maxLen ∧ z1.length = cap1 ∧ (∀ i, i < z1.length → w.cell? (x.add i) = some (.int .u8 (z1.getD i 0))) ∧ ∀ n ∈ z1, (Lit.int .u8 n).wf = true) (y1 : len1 * 1 ≤ 140737488351232) :
    Calls Try.prog 3 #[.slice a0 len0 cap0, .slice a1 len1 cap1] w fun e w' => e = .returned (.bool true) ∧ Below w.heap.size w w' := by
  obtain ⟨l0, rfl, hr0, hm0, hw0, hc0⟩ := ReadsInt.ofRowC w0
  obtain ⟨l1, rfl, hr1, hm1, hw1, hc1⟩ := ReadsInt.ofRowC w1
  obtain ⟨k, h⟩ := P l0 l1 hm0 y0 hw0 hm1 y1 hw1
  refine (laws_FnLoopCloses.calls k _ _ l0 _ _ l1 true w (Kd.C_of_reads (d := (0 : Int)) (h1 := fun _ => rfl) hr0) hc0 (Kd.C_of_reads (d := (0 : Int)) (h1 := fun _ => rfl) hr1) hc1 h rfl).mono ?_
  rintro e w' ⟨rfl, hd⟩
  exact ⟨rfl, hd⟩

end Go.Proofs.Ytmcfhmflncghiaa.Q
namespace Go.Proofs.Ytmcfhmflncghiaa.Pure
open Go.RowKit Go.Proofs.Ytmcfhmflncghiaa.Q Go.Proofs.YtmcfhmflncghiaaW.PrintWords Go.Proofs.YtmcfhmflncghiaaW.PrintLast Go.Proofs.YtmcfhmflncghiaaW.PrintMore
section
variable (pre suf : List Int) (y : Int)
theorem len_midI : (pre.length : Int) < ((pre ++ y :: suf).length : Int) := by simp; omega
theorem rd_midI : rd (pre ++ y :: suf) (pre.length : Int) = y := by simp [rd]
theorem app_midI : pre ++ y :: suf = (pre ++ [y]) ++ suf := by simp
theorem next_midI (h : pre.length < 4611686018427387904) : wrap64 ((pre.length : Int) + 1) = ((pre ++ [y]).length : Int) := by
  unfold wrap64; simp; omega
end
def hIn (h : List Int) : Prop := ∀ x ∈ h, -1000000 ≤ x ∧ x ≤ 1000000
instance (h : List Int) : Decidable (hIn h) := by unfold hIn; infer_instance
theorem nheights_l0 (suf : List Int) : ∀ (pre : List Int) (k : Nat), suf.length < k → pre.length + suf.length < 4611686018427387904 →
    impl_heightsValid.l0 k (pre ++ suf) ((pre ++ suf).length : Int) (pre.length : Int) = some (decide (hIn suf)) := by
  induction suf with
  | nil =>
    intro pre k hk _
    obtain ⟨k, rfl⟩ : ∃ m, k = m + 1 := ⟨k - 1, by omega⟩
    simp [impl_heightsValid.l0, hIn]
  | cons y suf ih =>
    intro pre k hk hl
    simp only [List.length_cons] at hk hl
    obtain ⟨k, rfl⟩ : ∃ m, k = m + 1 := ⟨k - 1, by omega⟩
    simp only [impl_heightsValid.l0]
    rw [if_pos (len_midI _ _ _), if_pos (by omega), if_pos (len_midI _ _ _), rd_midI, nwithin_eq _ _ (by omega) (by omega)]
    simp only [Option.bind_some]
    by_cases hy : -1000000 ≤ y ∧ y ≤ 1000000
    · rw [if_pos (by simpa using hy), next_midI pre y (by omega), app_midI pre suf y, ih (pre ++ [y]) k (by omega) (by simp; omega)]
      congr 1; rw [decide_eq_decide]; unfold hIn; simp [hy]
    · rw [if_neg (by simpa using hy)]; congr 1; symm; rw [decide_eq_false_iff_not]; exact fun q => hy (q y List.mem_cons_self)
/-- Heights fit runs. -/
def pot (h : Int → Int) (l : List Run) : Prop := ∀ r ∈ l, h r.f1 - h r.f0 = r.f2
theorem nfits_l0 {n : Int} {h : List Int} (hn : (h.length : Int) = n) (hb : hIn h) (suf : List Run) : ∀ (pre : List Run) (k : Nat), suf.length < k → pre.length + suf.length < 100 → VL n suf →
    (impl_NetFits.l0 k h (pre ++ suf) ((pre ++ suf).length : Int) (pre.length : Int) = some true ↔ pot (rd h) suf) ∧ ∃ b, impl_NetFits.l0 k h (pre ++ suf) ((pre ++ suf).length : Int) (pre.length : Int) = some b := by
  induction suf with
  | nil =>
    intro pre k hk _ _
    obtain ⟨k, rfl⟩ : ∃ m, k = m + 1 := ⟨k - 1, by omega⟩
    simp [impl_NetFits.l0, pot]
  | cons y suf ih =>
    intro pre k hk hl hv
    simp only [List.length_cons] at hk hl
    obtain ⟨k, rfl⟩ : ∃ m, k = m + 1 := ⟨k - 1, by omega⟩
    have hy := hv y List.mem_cons_self
    have bd : ∀ v : Int, 0 ≤ v → v < n → -1000000 ≤ rd h v ∧ rd h v ≤ 1000000 := fun v v0 v1 => by
      obtain ⟨i, rfl⟩ : ∃ i : Nat, v = i := ⟨v.toNat, by omega⟩
      rw [rd_eq h i (by omega)]
      exact hb _ (List.getElem_mem _)
    have b1 := bd y.f1 hy.2.2.1 hy.2.2.2
    have b0 := bd y.f0 hy.1 hy.2.1
    have hi := ih (pre ++ [y]) k (by omega) (by simp; omega) (fun r hr => hv r (List.mem_cons_of_mem _ hr))
    rw [impl_NetFits.l0, if_pos (len_midR _ _ _), if_pos (by omega), if_pos (len_midR _ _ _), rd_midR, if_pos hy.2.2.1, if_pos (by omega), if_pos hy.1, if_pos (by omega), nw64 (x := rd h y.f1 - rd h y.f0) (by omega) (by omega), next_midR pre y (by omega), app_midR pre suf y]
    by_cases c : rd h y.f1 - rd h y.f0 = y.f2
    · rw [if_pos c]
      refine ⟨hi.1.trans ⟨fun q r hr => ?_, fun q r hr => q r (List.mem_cons_of_mem _ hr)⟩, hi.2⟩
      rcases List.mem_cons.1 hr with e | e
      · rw [e]; exact c
      · exact q r e
    · rw [if_neg c]
      exact ⟨⟨fun q => by simp at q, fun q => absurd (q y List.mem_cons_self) c⟩, _, rfl⟩
theorem NetFits_true (k : Nat) (n : Int) (l : List Run) (h : List Int) (hk : 50 < k) (hv : nvB n l = true) (hn : (h.length : Int) = n) (hb : hIn h) : (impl_NetFits.f k n l h = some true ↔ pot (rd h) l) ∧ ∃ b, impl_NetFits.f k n l h = some b := by
  have hnn := nvB_n hv
  obtain ⟨k, rfl⟩ : ∃ m, k = m + 1 := ⟨k - 1, by omega⟩
  have e1 : impl_heightsValid.f (k + 1) n h = some true := by
    unfold impl_heightsValid.f
    rw [if_pos hn]
    have := nheights_l0 h [] (k + 1) (by omega) (by simp; omega)
    simp only [List.nil_append, List.length_nil] at this
    rw [show ((0 : Nat) : Int) = 0 from rfl] at this
    rw [this, decide_eq_true hb]
  have e2 := nfits_l0 hn hb l [] k (by omega) (by simp; omega) (nvB_VL hv)
  simp only [List.nil_append, List.length_nil] at e2
  rw [show ((0 : Nat) : Int) = 0 from rfl] at e2
  unfold impl_NetFits.f
  rw [impl_NetValid_eq (k + 1) n l (by omega), hv]
  simp only [Option.bind_some]
  rw [if_pos trivial, e1]
  simp only [Option.bind_some, Bool.not_true]
  rw [impl_NetFits.j0, if_neg (by simp)]
  exact e2
/-- A net is whole. -/
def wholeB (n : Int) (l : List Run) : Bool := nvB n l && (leastR n l).all (fun x => decide (x = 0))
theorem nwhole_l0 (suf : List Int) : ∀ (pre : List Int) (k : Nat), suf.length < k → pre.length + suf.length < 100 → impl_NetWhole.l0 k (pre ++ suf) ((pre ++ suf).length : Int) (pre.length : Int) = some (suf.all (fun x => decide (x = 0))) := by
  induction suf with
  | nil =>
    intro pre k hk _
    obtain ⟨k, rfl⟩ : ∃ m, k = m + 1 := ⟨k - 1, by omega⟩
    simp [impl_NetWhole.l0]
  | cons y suf ih =>
    intro pre k hk hl
    simp only [List.length_cons] at hk hl
    obtain ⟨k, rfl⟩ : ∃ m, k = m + 1 := ⟨k - 1, by omega⟩
    rw [impl_NetWhole.l0, if_pos (len_midI _ _ _), if_pos (by omega), if_pos (len_midI _ _ _), rd_midI]
    by_cases c : y = 0
    · rw [if_pos c, next_midI pre y (by omega), app_midI pre suf y, ih (pre ++ [y]) k (by omega) (by simp; omega)]
      simp [c]
    · rw [if_neg c]; simp [c]
theorem NetWhole_eq (k : Nat) (n : Int) (l : List Run) (hk : 50 < k) : impl_NetWhole.f k n l = some (wholeB n l) := by
  unfold impl_NetWhole.f wholeB
  rw [impl_NetValid_eq k n l (by omega)]
  simp only [Option.bind_some]
  by_cases hv : nvB n l = true
  · have hnn := nvB_n hv
    have hL := (leastR_lst (by omega) l (nvB_VL hv)).len
    have e : impl_leastLinked.f n l = some (leastR n l) := by unfold impl_leastLinked.f; rw [if_pos hv]
    have e2 := nwhole_l0 (leastR n l) [] k (by omega) (by simp; omega)
    simp only [List.nil_append, List.length_nil] at e2
    rw [show ((0 : Nat) : Int) = 0 from rfl] at e2
    rw [if_pos hv, e]
    simp only [Option.bind_some]
    rw [e2, hv, Bool.true_and]
  · rw [if_neg hv, Bool.eq_false_iff.2 hv, Bool.false_and]
theorem wholeB_iff {n : Int} {l : List Run} : wholeB n l = true ↔ nvB n l = true ∧ ∀ v, 0 ≤ v → v < n → Lk l 0 v := by
  unfold wholeB
  rw [Bool.and_eq_true]
  refine and_congr_right fun hv => ?_
  have hnn := nvB_n hv
  have L := leastR_lst (by omega) l (nvB_VL hv)
  have hl := L.len
  have e0 : rd (leastR n l) 0 = 0 := by have := L.le 0 (by omega) (by omega); have := L.nn 0 (by omega) (by omega); omega
  rw [List.all_eq_true]
  constructor
  · intro h v v0 v1
    rw [lk_iff L ⟨by omega, by omega⟩ ⟨v0, v1⟩, e0]
    obtain ⟨i, rfl⟩ : ∃ i : Nat, v = i := ⟨v.toNat, by omega⟩
    rw [rd_eq _ i (by omega)]
    exact (of_decide_eq_true (h _ (List.getElem_mem _))).symm
  · intro h x hx
    obtain ⟨i, hi, rfl⟩ := List.getElem_of_mem hx
    have := (lk_iff L ⟨by omega, by omega⟩ ⟨show (0 : Int) ≤ (i : Int) by omega, by omega⟩).1 (h i (by omega) (by omega))
    rw [e0, rd_eq _ i hi] at this
    exact decide_eq_true this.symm
end Go.Proofs.Ytmcfhmflncghiaa.Pure
namespace Go.Proofs.Ytmcfhmflncghiaa.Pure
open Go.RowKit Go.Proofs.Ytmcfhmflncghiaa.Q Go.Proofs.YtmcfhmflncghiaaW.PrintWords Go.Proofs.YtmcfhmflncghiaaW.PrintLast Go.Proofs.YtmcfhmflncghiaaW.PrintMore
abbrev rdT (l : List Run) (i : Int) : Run := rd_T32 l i
/-! trees -/
def pk (l : List Run) (t : List Int) : List Run := t.map (rdT l)
def ftStep (n : Int) (l : List Run) (t : List Int) (k : Nat) : List Int :=
  if rd (leastR n (pk l t)) (rdT l k).f0 = rd (leastR n (pk l t)) (rdT l k).f1 then t else t ++ [(k : Int)]
def ftree (n : Int) (l : List Run) : Nat → List Int
  | 0 => []
  | k + 1 => ftStep n l (ftree n l k) k
theorem rdT_mem {l : List Run} {k : Nat} (h : k < l.length) : rdT l k ∈ l := by
  unfold rdT rd_T32; simp [h]
theorem rdT_get {l : List Run} {k : Nat} (h : k < l.length) : rdT l k = l[k] := by
  unfold rdT rd_T32; simp [h]
theorem ft_lt (n : Int) (l : List Run) : ∀ m, ∀ k ∈ ftree n l m, 0 ≤ k ∧ k < m
  | 0, k, h => by simp [ftree] at h
  | m + 1, k, h => by
    rw [ftree, ftStep] at h
    split at h
    · have := ft_lt n l m k h; omega
    · rcases List.mem_append.1 h with q | q
      · have := ft_lt n l m k q; omega
      · rw [List.mem_singleton.1 q]; omega
theorem ft_asc (n : Int) (l : List Run) : ∀ m, (ftree n l m).Pairwise (· < ·)
  | 0 => by simp [ftree]
  | m + 1 => by
    rw [ftree, ftStep]
    split
    · exact ft_asc n l m
    · rw [List.pairwise_append]
      exact ⟨ft_asc n l m, by simp, fun a ha b hb => by have := ft_lt n l m a ha; rw [List.mem_singleton.1 hb]; omega⟩
theorem pk_sub {l : List Run} {t : List Int} (h : ∀ k ∈ t, 0 ≤ k ∧ k < (l.length : Int)) : ∀ r ∈ pk l t, r ∈ l := by
  intro r hr
  obtain ⟨k, hk, rfl⟩ := List.mem_map.1 hr
  obtain ⟨i, rfl⟩ : ∃ i : Nat, k = i := ⟨k.toNat, by have := h k hk; omega⟩
  exact rdT_mem (by have := h i hk; omega)
theorem ft_sub {n : Int} {l : List Run} {m : Nat} (h : m ≤ l.length) : ∀ r ∈ pk l (ftree n l m), r ∈ l :=
  pk_sub fun k hk => by have := ft_lt n l m k hk; omega
theorem ft_VL {n : Int} {l : List Run} {m : Nat} (hv : VL n l) (h : m ≤ l.length) : VL n (pk l (ftree n l m)) := hv.sub (ft_sub h)
theorem pk_snoc (l : List Run) (t : List Int) (k : Int) : pk l (t ++ [k]) = pk l t ++ [rdT l k] := by simp [pk]
theorem take_snoc {l : List Run} {m : Nat} (h : m < l.length) : l.take (m + 1) = l.take m ++ [rdT l m] := by
  rw [List.take_add_one, List.getElem?_eq_getElem h, rdT_get h]; rfl
/-- The tree so far links what the runs so far link. -/
theorem ft_lk {n : Int} (hn : 0 ≤ n) {l : List Run} (hv : VL n l) : ∀ m, m ≤ l.length → ∀ a b, Lk (l.take m) a b → Lk (pk l (ftree n l m)) a b
  | 0, _, a, b, h => by
    rw [List.take_zero] at h
    exact h.mono (by simp)
  | m + 1, hm, a, b, h => by
    have hr := hv _ (rdT_mem (l := l) (k := m) (by omega))
    have ih := ft_lk hn hv m (by omega)
    have hV := ft_VL (m := m) hv (by omega)
    have L := leastR_lst hn _ hV
    rw [take_snoc (by omega)] at h
    rw [ftree, ftStep]
    split
    · next c =>
      have hl : Lk (pk l (ftree n l m)) (rdT l m).f0 (rdT l m).f1 := (lk_iff L ⟨hr.1, hr.2.1⟩ ⟨hr.2.2.1, hr.2.2.2⟩).2 c
      induction h with
      | refl => exact .refl _
      | fwd hm2 _ ih2 =>
        rcases List.mem_append.1 hm2 with q | q
        · exact ih2.trans (ih _ _ (Lk.run q))
        · rw [List.mem_singleton.1 q] at ih2 ⊢; exact ih2.trans hl
      | bwd hm2 _ ih2 =>
        rcases List.mem_append.1 hm2 with q | q
        · exact ih2.trans (ih _ _ (Lk.run q)).symm
        · rw [List.mem_singleton.1 q] at ih2 ⊢; exact ih2.trans hl.symm
    · rw [pk_snoc]
      induction h with
      | refl => exact .refl _
      | fwd hm2 _ ih2 =>
        rcases List.mem_append.1 hm2 with q | q
        · exact ih2.trans ((ih _ _ (Lk.run q)).mono fun r hr => List.mem_append_left _ hr)
        · exact .fwd (List.mem_append_right _ q) ih2
      | bwd hm2 _ ih2 =>
        rcases List.mem_append.1 hm2 with q | q
        · exact ih2.trans ((ih _ _ (Lk.run q)).mono fun r hr => List.mem_append_left _ hr).symm
        · exact .bwd (List.mem_append_right _ q) ih2
/-- A tree has heights. -/
theorem ft_pot {n : Int} (hn : 0 ≤ n) {l : List Run} (hv : VL n l) : ∀ m, m ≤ l.length → ∃ h : Int → Int, pot h (pk l (ftree n l m))
  | 0, _ => ⟨fun _ => 0, by simp [pot, pk, ftree]⟩
  | m + 1, hm => by
    obtain ⟨h, hh⟩ := ft_pot hn hv m (by omega)
    have hr := hv _ (rdT_mem (l := l) (k := m) (by omega))
    have hV := ft_VL (m := m) hv (by omega)
    have L := leastR_lst hn _ hV
    rw [ftree, ftStep]
    split
    · exact ⟨h, hh⟩
    · next c =>
      generalize hd : (rdT l m).f2 - (h (rdT l m).f1 - h (rdT l m).f0) = d
      generalize ho : leastR n (pk l (ftree n l m)) = o at c L
      refine ⟨fun v => if rd o v = rd o (rdT l m).f1 then h v + d else h v, fun r hr2 => ?_⟩
      rw [pk_snoc] at hr2
      rcases List.mem_append.1 hr2 with q | q
      · have e := L.cl r q
        have := hh r q
        dsimp only
        rw [e]
        split <;> omega
      · rw [List.mem_singleton.1 q]
        dsimp only
        rw [if_pos rfl, if_neg c]
        omega
/-- How many parts. -/
def parts (o : List Int) : Nat := ((List.range o.length).filter fun (i : Nat) => decide (rd o (i : Int) = (i : Int))).length
theorem filter_one (P Q : Nat → Bool) (z : Nat) : ∀ n, z < n → (∀ i, i < n → i ≠ z → P i = Q i) → P z = false → Q z = true → ((List.range n).filter P).length + 1 = ((List.range n).filter Q).length
  | 0, h, _, _, _ => by omega
  | n + 1, h, he, h0, h1 => by
    rw [List.range_succ, List.filter_append, List.filter_append, List.length_append, List.length_append]
    by_cases q : z = n
    · subst q
      have : (List.range z).filter P = (List.range z).filter Q := List.filter_congr fun i hi => by
        have := List.mem_range.1 hi
        exact he i (by omega) (by omega)
      rw [this]
      simp [h0, h1]
    · have ih := filter_one P Q z n (by omega) (fun i hi => he i (by omega)) h0 h1
      have e := he n (by omega) (by omega)
      simp only [List.filter_cons, List.filter_nil, e]
      omega
theorem parts_mg {n : Int} {l : List Run} {o : List Int} (L : Lst n l o) {a b : Int} (ha : 0 ≤ a ∧ a < n) (hb : 0 ≤ b ∧ b < n) (hab : rd o a ≠ rd o b) : parts (mg o (rd o a) (rd o b)) + 1 = parts o := by
  have hl := L.len
  have rep : ∀ v, 0 ≤ v → v < n → rd o (rd o v) = rd o v := fun v v0 v1 => (L.lk v v0 v1).const (rd o) L.cl
  have a1 := L.le a ha.1 ha.2; have a0 := L.nn a ha.1 ha.2
  have b1 := L.le b hb.1 hb.2; have b0 := L.nn b hb.1 hb.2
  have ra := rep a ha.1 ha.2; have rb := rep b hb.1 hb.2
  unfold parts
  have hlen : (mg o (rd o a) (rd o b)).length = o.length := by simp [mg]
  rw [hlen]
  have hz : (max (rd o a) (rd o b)).toNat < o.length := by omega
  have hzc : (((max (rd o a) (rd o b)).toNat : Nat) : Int) = max (rd o a) (rd o b) := by omega
  have hrep : rd o (max (rd o a) (rd o b)) = max (rd o a) (rd o b) := by
    rcases Int.le_total (rd o a) (rd o b) with c | c
    · rw [Int.max_eq_right c]; exact rb
    · rw [Int.max_eq_left c]; exact ra
  refine filter_one _ _ (max (rd o a) (rd o b)).toNat o.length hz (fun i hi hne => ?_) ?_ ?_
  · rw [rd_mg _ _ _ _ (by omega) (by omega)]
    split
    · next c =>
      have hne2 : (i : Int) ≠ max (rd o a) (rd o b) := by omega
      have i1 := L.le i (by omega) (by omega)
      rw [decide_eq_false (by omega), decide_eq_false (by omega)]
    · rfl
  · rw [hzc, rd_mg _ _ _ _ (by omega) (by omega), hrep, if_pos rfl, decide_eq_false (by omega)]
  · rw [hzc, hrep]; simp
theorem parts_iota (n : Int) (hn : 0 ≤ n) : parts (iota n) = n.toNat := by
  unfold parts
  have hl := iota_len n hn
  rw [List.filter_eq_self.2 (fun i hi => ?_), List.length_range]
  · omega
  · have := List.mem_range.1 hi
    rw [rd_iota n i (by omega) (by omega)]; simp
theorem ft_parts {n : Int} (hn : 0 ≤ n) {l : List Run} (hv : VL n l) : ∀ m, m ≤ l.length → parts (leastR n (pk l (ftree n l m))) + (ftree n l m).length = n.toNat
  | 0, _ => by
    show parts (leastR n []) + 0 = _
    rw [show leastR n [] = iota n from rfl, parts_iota n hn]
    omega
  | m + 1, hm => by
    have ih := ft_parts hn hv m (by omega)
    have hr := hv _ (rdT_mem (l := l) (k := m) (by omega))
    have hV := ft_VL (m := m) hv (by omega)
    have L := leastR_lst hn _ hV
    rw [ftree, ftStep]
    split
    · exact ih
    · next c =>
      have := parts_mg L ⟨hr.1, hr.2.1⟩ ⟨hr.2.2.1, hr.2.2.2⟩ c
      rw [pk_snoc, leastR_snoc, List.length_append, List.length_singleton]
      omega
/-- Whole: one part. -/
theorem parts_whole {n : Int} (hn : 1 ≤ n) {l : List Run} (hv : VL n l) (hw : ∀ v, 0 ≤ v → v < n → Lk l 0 v) : parts (leastR n l) = 1 := by
  have L := leastR_lst (by omega) l hv
  have hl := L.len
  have e0 : rd (leastR n l) 0 = 0 := by have := L.le 0 (by omega) (by omega); have := L.nn 0 (by omega) (by omega); omega
  have ez : ∀ v, 0 ≤ v → v < n → rd (leastR n l) v = 0 := fun v v0 v1 => by rw [← (lk_iff L ⟨by omega, by omega⟩ ⟨v0, v1⟩).1 (hw v v0 v1), e0]
  unfold parts
  have h := filter_one (fun _ => false) (fun i => decide (rd (leastR n l) (i : Int) = (i : Int))) 0 (leastR n l).length (by omega) (fun i hi hne => by
    rw [ez i (by omega) (by omega)]; simp; omega) rfl (by simp [e0])
  rw [← h]
  simp
/-! ways -/
inductive Way (l : List Run) (t : List Int) : List Int → Int → Int → Prop
  | nil (a : Int) : Way l t [] a a
  | up {k : Int} {w : List Int} {b : Int} (hk : k ∈ t) (h : Way l t w (rdT l k).f1 b) : Way l t ((k + 1) :: w) (rdT l k).f0 b
  | dn {k : Int} {w : List Int} {b : Int} (hk : k ∈ t) (h : Way l t w (rdT l k).f0 b) : Way l t (-(k + 1) :: w) (rdT l k).f1 b
theorem Way.snoc_up {l : List Run} {t : List Int} {w : List Int} {a b k : Int} (h : Way l t w a b) (hk : k ∈ t) (e : (rdT l k).f0 = b) : Way l t (w ++ [k + 1]) a (rdT l k).f1 := by
  induction h with
  | nil a => rw [← e]; exact .up hk (.nil _)
  | up h1 _ ih => exact .up h1 (ih e)
  | dn h1 _ ih => exact .dn h1 (ih e)
theorem Way.snoc_dn {l : List Run} {t : List Int} {w : List Int} {a b k : Int} (h : Way l t w a b) (hk : k ∈ t) (e : (rdT l k).f1 = b) : Way l t (w ++ [-(k + 1)]) a (rdT l k).f0 := by
  induction h with
  | nil a => rw [← e]; exact .dn hk (.nil _)
  | up h1 _ ih => exact .up h1 (ih e)
  | dn h1 _ ih => exact .dn h1 (ih e)
/-- The rise of a number. -/
def nrise (l : List Run) (x : Int) : Int := if x > 0 then (rdT l (x - 1)).f2 else -(rdT l (-x - 1)).f2
def wsum (l : List Run) : List Int → Int
  | [] => 0
  | x :: w => nrise l x + wsum l w
theorem Way.sum {l : List Run} {t : List Int} (ht : ∀ k ∈ t, 0 ≤ k) {h : Int → Int} (hp : pot h (pk l t)) {w : List Int} {a b : Int} (hw : Way l t w a b) : wsum l w = h b - h a := by
  induction hw with
  | nil a => simp [wsum]
  | @up k w b hk _ ih =>
    have := ht k hk
    have e := hp (rdT l k) (List.mem_map.2 ⟨k, hk, rfl⟩)
    rw [wsum, ih, nrise, if_pos (by omega), show k + 1 - 1 = k by omega]
    omega
  | @dn k w b hk _ ih =>
    have := ht k hk
    have e := hp (rdT l k) (List.mem_map.2 ⟨k, hk, rfl⟩)
    rw [wsum, ih, nrise, if_neg (by omega), show -(-(k + 1)) - 1 = k by omega]
    omega
end Go.Proofs.Ytmcfhmflncghiaa.Pure
namespace Go.Proofs.Ytmcfhmflncghiaa.Pure
open Go.RowKit Go.Proofs.Ytmcfhmflncghiaa.Q Go.Proofs.Ytmcfhmflncghiaa.TreeW Go.Proofs.YtmcfhmflncghiaaW.PrintWords Go.Proofs.YtmcfhmflncghiaaW.PrintLast Go.Proofs.YtmcfhmflncghiaaW.PrintMore
theorem rdOf_set (o : List Bool) (i v : Int) (x : Bool) (h0 : 0 ≤ i) (hv : 0 ≤ v) (hl : v < o.length) : rdOf false (o.set i.toNat x) v = if v = i then x else rdOf false o v := by
  unfold rdOf
  obtain ⟨a, rfl⟩ : ∃ a : Nat, i = a := ⟨i.toNat, by omega⟩
  obtain ⟨b, rfl⟩ : ∃ b : Nat, v = b := ⟨v.toNat, by omega⟩
  simp only [Int.toNat_natCast, List.getD, List.getElem?_set]
  by_cases e : a = b
  · subst e; rw [if_pos rfl, if_pos rfl, if_pos (by omega)]; rfl
  · rw [if_neg e, if_neg (by omega)]
theorem count_set_false : ∀ (o : List Bool) (i : Nat), (h : i < o.length) → o[i] = false → (o.set i true).count false + 1 = o.count false
  | [], i, h, _ => by simp at h
  | x :: o, 0, _, e => by
    simp only [List.getElem_cons_zero] at e
    simp [List.set_cons_zero, e]
  | x :: o, i + 1, h, e => by
    have ih := count_set_false o i (by simpa using h) (by simpa using e)
    simp only [List.set_cons_succ, List.count_cons]
    omega
theorem count_rdOf (o : List Bool) (x : Int) (h0 : 0 ≤ x) (h1 : x < o.length) (e : rdOf false o x = false) : (o.set x.toNat true).count false + 1 = o.count false := by
  obtain ⟨i, rfl⟩ : ∃ i : Nat, x = i := ⟨x.toNat, by omega⟩
  have hi : i < o.length := by omega
  refine count_set_false o i hi ?_
  unfold rdOf at e
  simpa [List.getD, hi] using e
/-- What a branch must be. -/
def okB (l : List Run) (t : List Int) (a : Int) (sn : List Bool) (x : Br) : Prop := (0 ≤ x.1 ∧ x.1 < 6) ∧ rdOf false sn x.1 = true ∧ Way l t x.2 a x.1 ∧ x.2.length + sn.count false ≤ 5
structure TinOut (l : List Run) (t : List Int) (a nd : Int) (xs : List Int) (st : List Br) (sn : List Bool) (st' : List Br) (sn' : List Bool) : Prop where
  len : sn'.length = 6
  grow : ∀ v, 0 ≤ v → v < 6 → rdOf false sn v = true → rdOf false sn' v = true
  done : ∀ k ∈ xs, ((rdT l k).f1 = nd → rdOf false sn' (rdT l k).f0 = true) ∧ ((rdT l k).f0 = nd → rdOf false sn' (rdT l k).f1 = true)
  new : ∀ v, 0 ≤ v → v < 6 → rdOf false sn' v = true → rdOf false sn v = true ∨ v ∈ st'.map (·.1)
  keep : ∀ x ∈ st, x ∈ st'
  ok : (∀ x ∈ st, okB l t a sn x) → ∀ x ∈ st', okB l t a sn' x
  cnt : st'.length + sn'.count false = st.length + sn.count false
  le : sn'.count false ≤ sn.count false
theorem tstep_ok {l : List Run} {t : List Int} {a nd num nx : Int} {way : List Int} {st : List Br} {sn : List Bool} (hlen : sn.length = 6) (hnx : 0 ≤ nx ∧ nx < 6) (hw : Way l t (way ++ [num]) a nx) (hwl : way.length + sn.count false ≤ 5) (hst : st.length + sn.count false ≤ 10) :
    ∃ st' sn', tstep num nx way st sn = some (st', sn') ∧ TinOut l t a nd [] st sn st' sn' ∧ rdOf false sn' nx = true := by
  unfold tstep
  rw [if_pos ⟨hnx.1, by omega⟩]
  by_cases c : rdOf false sn nx = true
  · rw [if_pos c]
    exact ⟨st, sn, rfl, ⟨hlen, fun _ _ _ h => h, by simp, fun _ _ _ h => .inl h, fun _ h => h, fun h => h, rfl, Nat.le_refl _⟩, c⟩
  · have hc := count_rdOf sn nx hnx.1 (by omega) (Bool.eq_false_iff.2 c)
    have hset := fun v v0 v1 => rdOf_set sn nx v true hnx.1 v0 (show v < (sn.length : Int) by rw [hlen]; exact v1)
    rw [if_neg c, if_pos ⟨by omega, by omega⟩]
    refine ⟨_, _, rfl, ⟨by rw [List.length_set]; exact hlen, fun v v0 v1 h => ?_, by simp, fun v v0 v1 h => ?_, fun x hx => List.mem_append_left _ hx, fun hok x hx => ?_, ?_, by omega⟩, ?_⟩
    · rw [hset v v0 v1]; split; rfl; exact h
    · rw [hset v v0 v1] at h
      split at h
      · next q => exact .inr (by rw [q]; simp)
      · exact .inl h
    · rcases List.mem_append.1 hx with q | q
      · obtain ⟨h1, h2, h3, h4⟩ := hok x q
        refine ⟨h1, ?_, h3, by omega⟩
        rw [hset x.1 h1.1 h1.2]; split; rfl; exact h2
      · rw [List.mem_singleton.1 q]
        refine ⟨hnx, ?_, hw, ?_⟩
        · rw [hset nx hnx.1 hnx.2, if_pos rfl]
        · show (way ++ [num]).length + _ ≤ 5
          rw [List.length_append, List.length_singleton]; omega
    · rw [List.length_append, List.length_singleton]; omega
    · rw [hset nx hnx.1 hnx.2, if_pos rfl]
theorem tin_ok {n : Int} {l : List Run} {t : List Int} (hn : n ≤ 6) (hv : VL n l) (hl : l.length ≤ 12) (ht : ∀ k ∈ t, 0 ≤ k ∧ k < (l.length : Int)) {a nd : Int} {way : List Int} : ∀ (xs : List Int) (st : List Br) (sn : List Bool), (∀ k ∈ xs, k ∈ t) → sn.length = 6 → (0 ≤ nd ∧ nd < 6) → rdOf false sn nd = true → Way l t way a nd → way.length + sn.count false ≤ 5 → st.length + sn.count false ≤ 10 →
    ∃ st' sn', tin l nd way xs st sn = some (st', sn') ∧ TinOut l t a nd xs st sn st' sn'
  | [], st, sn, _, hlen, _, _, _, _, _ => ⟨st, sn, rfl, ⟨hlen, fun _ _ _ h => h, by simp, fun _ _ _ h => .inl h, fun _ h => h, fun h => h, rfl, Nat.le_refl _⟩⟩
  | x :: xs, st, sn, hxs, hlen, hndr, hnd, hw, hwl, hst => by
    have hx := hxs x (by simp)
    have hxr := ht x hx
    have hm : rdT l x ∈ l := by
      obtain ⟨i, rfl⟩ : ∃ i : Nat, x = i := ⟨x.toNat, by omega⟩
      exact rdT_mem (by omega)
    have hb := hv _ hm
    have e1 : wrap64 (x + 1) = x + 1 := nw64 (by omega) (by omega)
    have e2 : wrap64 (-(x + 1)) = -(x + 1) := nw64 (by omega) (by omega)
    have key : ∃ st1 sn1, tone l nd way x st sn = some (st1, sn1) ∧ TinOut l t a nd [] st sn st1 sn1 ∧ ((rdT l x).f1 = nd → rdOf false sn1 (rdT l x).f0 = true) ∧ ((rdT l x).f0 = nd → rdOf false sn1 (rdT l x).f1 = true) := by
      unfold tone
      rw [if_pos hxr, e1, e2]
      by_cases c1 : (rdT l x).f1 = nd
      · rw [if_pos c1]
        obtain ⟨st1, sn1, h1, h2, h3⟩ := tstep_ok (nd := nd) hlen (num := -(x + 1)) (nx := (rdT l x).f0) ⟨hb.1, by omega⟩ (hw.snoc_dn hx c1) hwl hst
        exact ⟨st1, sn1, h1, h2, fun _ => h3, fun _ => by rw [c1]; exact h2.grow nd hndr.1 hndr.2 hnd⟩
      · rw [if_neg c1]
        by_cases c2 : (rdT l x).f0 = nd
        · rw [if_pos c2]
          obtain ⟨st1, sn1, h1, h2, h3⟩ := tstep_ok (nd := nd) hlen (num := x + 1) (nx := (rdT l x).f1) ⟨hb.2.2.1, by omega⟩ (hw.snoc_up hx c2) hwl hst
          exact ⟨st1, sn1, h1, h2, fun q => absurd q c1, fun _ => h3⟩
        · rw [if_neg c2]
          exact ⟨st, sn, rfl, ⟨hlen, fun _ _ _ h => h, by simp, fun _ _ _ h => .inl h, fun _ h => h, fun h => h, rfl, Nat.le_refl _⟩, fun q => absurd q c1, fun q => absurd q c2⟩
    obtain ⟨st1, sn1, h1, h2, h3, h4⟩ := key
    have hr : rdOf false sn1 nd = true := h2.grow nd hndr.1 hndr.2 hnd
    have hle := h2.le; have hcnt := h2.cnt
    obtain ⟨st2, sn2, g1, g2⟩ := tin_ok hn hv hl ht xs st1 sn1 (fun k hk => hxs k (by simp [hk])) h2.len hndr hr hw (by omega) (by omega)
    refine ⟨st2, sn2, by rw [tin, h1]; exact g1, ⟨g2.len, fun v v0 v1 h => g2.grow v v0 v1 (h2.grow v v0 v1 h), fun k hk => ?_, fun v v0 v1 h => ?_, fun x hx => g2.keep x (h2.keep x hx), fun h => g2.ok (h2.ok h), by have := g2.cnt; omega, by have := g2.le; omega⟩⟩
    · rcases List.mem_cons.1 hk with rfl | q
      · exact ⟨fun c => g2.grow _ hb.1 (by omega) (h3 c), fun c => g2.grow _ hb.2.2.1 (by omega) (h4 c)⟩
      · exact g2.done k q
    · rcases g2.new v v0 v1 h with q | q
      · rcases h2.new v v0 v1 q with z | z
        · exact .inl z
        · obtain ⟨y, hy, e⟩ := List.mem_map.1 z
          exact .inr (List.mem_map.2 ⟨y, g2.keep y hy, e⟩)
      · exact .inr q
theorem tout_ok {n : Int} {l : List Run} {t : List Int} (hn : n ≤ 6) (hv : VL n l) (hl : l.length ≤ 12) (ht : ∀ k ∈ t, 0 ≤ k ∧ k < (l.length : Int)) {a b : Int} (har : 0 ≤ a ∧ a < 6) (hlk : Lk (pk l t) a b) : ∀ (k : Nat) (st : List Br) (sn : List Bool), st.length + sn.count false < k → st.length + sn.count false ≤ 10 → sn.length = 6 →
    (∀ x ∈ st, okB l t a sn x) → rdOf false sn a = true → (0 ≤ b ∧ b < 6) → (rdOf false sn b = true → b ∈ st.map (·.1)) →
    (∀ u, 0 ≤ u → u < 6 → rdOf false sn u = true → u ∉ st.map (·.1) → ∀ j ∈ t, ((rdT l j).f1 = u → rdOf false sn (rdT l j).f0 = true) ∧ ((rdT l j).f0 = u → rdOf false sn (rdT l j).f1 = true)) →
    ∃ w, tout l t b k st sn = some w ∧ Way l t w a b ∧ w.length ≤ 5
  | 0, _, _, h, _, _, _, _, _, _, _ => by omega
  | k + 1, st, sn, hk, h10, hlen, hok, ha, hbr, hb, hcl => by
    rw [tout]
    rcases List.eq_nil_or_concat st with rfl | ⟨st, x, e⟩
    · exfalso
      have hc : ∀ r ∈ pk l t, (rdOf false sn r.f0 = true) = (rdOf false sn r.f1 = true) := fun r hr => by
        obtain ⟨j, hj, rfl⟩ := List.mem_map.1 hr
        have hjr := ht j hj
        have hm : rdT l j ∈ l := by
          obtain ⟨i, rfl⟩ : ∃ i : Nat, j = i := ⟨j.toNat, by omega⟩
          exact rdT_mem (by omega)
        have hb2 := hv _ hm
        exact propext ⟨fun q => (hcl _ hb2.1 (by omega) q (by simp) j hj).2 rfl, fun q => (hcl _ hb2.2.2.1 (by omega) q (by simp) j hj).1 rfl⟩
      have := (hlk.const (fun v => rdOf false sn v = true) hc).mp ha
      simpa using hb this
    · have e2 : st ++ [x] = st.concat x := by simp
      rw [e, ← e2] at hk h10 hok hb hcl ⊢
      rw [List.getLast?_append, List.getLast?_singleton, List.dropLast_concat]
      dsimp only [Option.or]
      obtain ⟨o1, o2, o3, o4⟩ := hok x (by simp)
      rw [List.length_append, List.length_singleton] at hk h10
      by_cases c : x.1 = b
      · rw [if_pos c]
        exact ⟨x.2, rfl, by rw [← c]; exact o3, by omega⟩
      · rw [if_neg c]
        obtain ⟨st', sn', h1, h2⟩ := tin_ok hn hv hl ht (a := a) (nd := x.1) (way := x.2) t st sn (fun _ h => h) hlen o1 o2 o3 o4 (by omega)
        rw [h1]
        simp only [Option.bind_some]
        have hcnt := h2.cnt
        refine tout_ok hn hv hl ht har hlk k st' sn' (by omega) (by omega) h2.len (h2.ok fun y hy => hok y (by simp [hy])) (h2.grow a har.1 har.2 ha) hbr (fun q => ?_) (fun u u0 u1 us hu j hj => ?_)
        · rcases h2.new b hbr.1 hbr.2 q with z | z
          · have := hb z
            rw [List.map_append, List.mem_append] at this
            rcases this with y | y
            · obtain ⟨y1, y2, y3⟩ := List.mem_map.1 y
              exact List.mem_map.2 ⟨y1, h2.keep y1 y2, y3⟩
            · exact absurd (by simpa using y) (fun q : b = x.1 => c q.symm)
          · exact z
        · by_cases q : u = x.1
          · subst q; exact h2.done j hj
          · have hjr := ht j hj
            have hm : rdT l j ∈ l := by
              obtain ⟨i, rfl⟩ : ∃ i : Nat, j = i := ⟨j.toNat, by omega⟩
              exact rdT_mem (by omega)
            have hb2 := hv _ hm
            rcases h2.new u u0 u1 us with z | z
            · have := hcl u u0 u1 z (by
                intro hm2
                rw [List.map_append, List.mem_append] at hm2
                rcases hm2 with y | y
                · obtain ⟨y1, y2, y3⟩ := List.mem_map.1 y
                  exact hu (List.mem_map.2 ⟨y1, h2.keep y1 y2, y3⟩)
                · exact q (by simpa using y)) j hj
              exact ⟨fun s => h2.grow _ hb2.1 (by omega) (this.1 s), fun s => h2.grow _ hb2.2.2.1 (by omega) (this.2 s)⟩
            · exact absurd z hu
theorem treeR_ok {n : Int} {l : List Run} {t : List Int} (hn : n ≤ 6) (hv : VL n l) (hl : l.length ≤ 12) (ht : ∀ k ∈ t, 0 ≤ k ∧ k < (l.length : Int)) (htl : t.length ≤ 1000) {a b : Int} (ha : 0 ≤ a ∧ a < n) (hb : 0 ≤ b ∧ b < n) (hlk : Lk (pk l t) a b) : ∃ w, treeR 100 l t a b = some w ∧ Way l t w a b ∧ w.length ≤ 5 := by
  unfold treeR
  rw [if_pos ⟨ha.1, by omega, by omega, htl⟩]
  have hset := fun v (v0 : (0 : Int) ≤ v) (v1 : v < 6) => rdOf_set (List.replicate 6 false) a v true ha.1 v0 (by simpa using v1)
  have hr : ∀ v : Int, rdOf false (List.replicate 6 false) v = false := fun v => by unfold rdOf; rw [List.getD_eq_getElem?_getD, List.getElem?_replicate]; split <;> rfl
  have hc := count_rdOf (List.replicate 6 false) a ha.1 (by simp; omega) (hr a)
  rw [List.count_replicate_self] at hc
  have hs : ∀ v : Int, 0 ≤ v → v < 6 → rdOf false ((List.replicate 6 false).set a.toNat true) v = true → v = a := fun v v0 v1 h => by
    rw [hset v v0 v1, hr] at h
    by_cases q : v = a
    · exact q
    · rw [if_neg q] at h; cases h
  have hsa : rdOf false ((List.replicate 6 false).set a.toNat true) a = true := by rw [hset a ha.1 (by omega), if_pos rfl]
  refine tout_ok hn hv hl ht ⟨ha.1, by omega⟩ hlk 100 _ _ (by simp only [List.length_singleton]; omega) (by simp only [List.length_singleton]; omega) (by simp) (fun x hx => ?_) hsa ⟨hb.1, by omega⟩ (fun q => by rw [hs b hb.1 (by omega) q]; simp) (fun u u0 u1 us hu => absurd (by rw [hs u u0 u1 us]; simp) hu)
  rw [List.mem_singleton.1 hx]
  exact ⟨⟨ha.1, by show a < 6; omega⟩, hsa, .nil a, by show ([] : List Int).length + _ ≤ 5; simp only [List.length_nil]; omega⟩
end Go.Proofs.Ytmcfhmflncghiaa.Pure
namespace Go.Proofs.Ytmcfhmflncghiaa.Pure
open Go.RowKit Go.Proofs.Ytmcfhmflncghiaa.Q Go.Proofs.Ytmcfhmflncghiaa.TreeW Go.Proofs.YtmcfhmflncghiaaW.PrintWords Go.Proofs.YtmcfhmflncghiaaW.PrintLast Go.Proofs.YtmcfhmflncghiaaW.PrintMore
theorem pick_l0 {l : List Run} (suf : List Int) : ∀ (pre : List Int) (acc : List Run) (k : Nat), suf.length < k → pre.length + suf.length ≤ 100 → acc.length + suf.length ≤ 100 → (∀ x ∈ suf, 0 ≤ x ∧ x < (l.length : Int)) →
    impl_pick.l0 k l acc (pre ++ suf) ((pre ++ suf).length : Int) (pre.length : Int) = some (acc ++ pk l suf) := by
  induction suf with
  | nil =>
    intro pre acc k hk _ _ _
    obtain ⟨k, rfl⟩ : ∃ m, k = m + 1 := ⟨k - 1, by omega⟩
    simp [impl_pick.l0, pk]
  | cons y suf ih =>
    intro pre acc k hk hl ha hx
    simp only [List.length_cons] at hk hl ha
    obtain ⟨k, rfl⟩ : ∃ m, k = m + 1 := ⟨k - 1, by omega⟩
    have hy := hx y (by simp)
    rw [impl_pick.l0, if_pos (len_midI _ _ _), if_pos (by omega), if_pos (len_midI _ _ _), rd_midI, if_pos hy.1, if_pos hy.2, if_pos (by omega), next_midI pre y (by omega), app_midI pre suf y]
    have := ih (pre ++ [y]) (acc ++ [rd_T32 l y]) k (by omega) (by simp; omega) (by simp; omega) (fun x hm => hx x (by simp [hm]))
    refine this.trans ?_
    simp [pk]
theorem pick_eq (k : Nat) {l : List Run} {t : List Int} (hk : 50 < k) (ht : t.length ≤ 20) (hx : ∀ x ∈ t, 0 ≤ x ∧ x < (l.length : Int)) : impl_pick.f k l t = some (pk l t) := by
  unfold impl_pick.f
  rw [if_pos (by omega), if_pos (by omega)]
  have := pick_l0 (l := l) t [] [] k (by omega) (by simp; omega) (by simp; omega) hx
  simpa using this
theorem ft_len (n : Int) (l : List Run) : ∀ m, (ftree n l m).length ≤ m
  | 0 => by simp [ftree]
  | m + 1 => by
    have := ft_len n l m
    rw [ftree, ftStep]
    split
    · omega
    · rw [List.length_append, List.length_singleton]; omega
theorem pk_valid {n : Int} {l : List Run} (hv : nvB n l = true) {t : List Int} (ht : t.length ≤ 12) (hx : ∀ x ∈ t, 0 ≤ x ∧ x < (l.length : Int)) : nvB n (pk l t) = true := by
  have hn := nvB_n hv
  unfold nvB at hv ⊢
  rw [Bool.and_eq_true, decide_eq_true_iff, List.all_eq_true] at hv ⊢
  refine ⟨⟨hn.1, hn.2.1, by simp [pk]; exact ht⟩, fun r hr => hv.2 r (pk_sub hx r hr)⟩
theorem leastLinked_eq {n : Int} {l : List Run} (hv : nvB n l = true) : impl_leastLinked.f n l = some (leastR n l) := by
  unfold impl_leastLinked.f; rw [if_pos hv]
theorem TreeFirst_l0 {n : Int} {l : List Run} (hv : nvB n l = true) (c : Nat) : ∀ (i k : Nat), l.length - i = c → i ≤ l.length → c + 55 < k →
    impl_TreeFirst.l0 k n l (ftree n l i) l (l.length : Int) (i : Int) = some (ftree n l l.length, true) := by
  have hn := nvB_n hv
  have hVL := nvB_VL hv
  induction c with
  | zero =>
    intro i k hc hi hk
    obtain ⟨k, rfl⟩ : ∃ m, k = m + 1 := ⟨k - 1, by omega⟩
    rw [impl_TreeFirst.l0, if_neg (by omega), show i = l.length by omega]
  | succ c ih =>
    intro i k hc hi hk
    obtain ⟨k, rfl⟩ : ∃ m, k = m + 1 := ⟨k - 1, by omega⟩
    have hft := ft_len n l i
    have hlt := ft_lt n l i
    have hx : ∀ x ∈ ftree n l i, 0 ≤ x ∧ x < (l.length : Int) := fun x hm => by have := hlt x hm; omega
    have hpv := pk_valid hv (by omega) hx
    have hL := (leastR_lst (by omega) _ (nvB_VL hpv)).len
    have hr := hVL _ (rdT_mem (l := l) (k := i) (by omega))
    dsimp only [rdT] at hr
    have hnx := ih (i + 1) k (by omega) (by omega) (by omega)
    rw [ftree, ftStep] at hnx
    rw [impl_TreeFirst.l0, if_pos (by omega), if_pos (by omega), if_pos (by omega), pick_eq k (by omega) (by omega) hx]
    simp only [Option.bind_some]
    rw [leastLinked_eq hpv]
    simp only [Option.bind_some]
    rw [if_pos hr.1, if_pos (by omega), if_pos hr.2.2.1, if_pos (by omega), nw64 (x := (i : Int) + 1) (by omega) (by omega)]
    split
    · next c1 =>
      rw [if_pos c1] at hnx
      exact hnx
    · next c1 =>
      rw [if_neg c1] at hnx
      rw [if_pos (by omega)]
      exact hnx
theorem TreeFirst_eq (k : Nat) {n : Int} {l : List Run} (hk : 100 < k) (hw : wholeB n l = true) : impl_TreeFirst.f k n l = some (ftree n l l.length, true) := by
  have hv := (wholeB_iff.1 hw).1
  have hn := nvB_n hv
  unfold impl_TreeFirst.f
  rw [NetWhole_eq k n l (by omega), hw]
  simp only [Option.bind_some]
  rw [if_pos trivial]
  have := TreeFirst_l0 hv l.length 0 k (by omega) (by omega) (by omega)
  exact this
theorem Index_l0 (x : Int) (suf : List Int) : ∀ (pre : List Int) (k : Nat), suf.length < k → pre.length + suf.length ≤ 100 → ∃ v, slices_Index_int_int.l0 k (pre ++ suf) x ((pre ++ suf).length : Int) (pre.length : Int) = some v ∧ (v ≥ 0 ↔ x ∈ suf) := by
  induction suf with
  | nil =>
    intro pre k hk _
    obtain ⟨k, rfl⟩ : ∃ m, k = m + 1 := ⟨k - 1, by omega⟩
    exact ⟨-1, by simp [slices_Index_int_int.l0], by simp⟩
  | cons y suf ih =>
    intro pre k hk hl
    simp only [List.length_cons] at hk hl
    obtain ⟨k, rfl⟩ : ∃ m, k = m + 1 := ⟨k - 1, by omega⟩
    rw [slices_Index_int_int.l0, if_pos (len_midI _ _ _), if_pos (by omega), if_pos (len_midI _ _ _), rd_midI]
    by_cases c : x = y
    · rw [if_pos c]
      exact ⟨_, rfl, by simp [c]⟩
    · rw [if_neg c, next_midI pre y (by omega), app_midI pre suf y]
      obtain ⟨v, h1, h2⟩ := ih (pre ++ [y]) k (by omega) (by simp; omega)
      exact ⟨v, h1, by rw [h2]; simp [c]⟩
theorem Contains_eq (k : Nat) {t : List Int} (x : Int) (hk : 50 < k) (ht : t.length ≤ 20) : slices_Contains_int_int.f k t x = some (decide (x ∈ t)) := by
  obtain ⟨v, h1, h2⟩ := Index_l0 x t [] k (by omega) (by simp; omega)
  simp only [List.nil_append, List.length_nil] at h1
  rw [show ((0 : Nat) : Int) = 0 from rfl] at h1
  unfold slices_Contains_int_int.f slices_Index_int_int.f
  rw [h1]
  simp only [Option.bind_some]
  congr 1
  rw [decide_eq_decide]; exact h2
/-- The run of a number, in its direction. -/
def nrun (l : List Run) (x : Int) : Run := if x > 0 then rdT l (x - 1) else ⟨(rdT l (-x - 1)).f1, (rdT l (-x - 1)).f0, -(rdT l (-x - 1)).f2, (rdT l (-x - 1)).f3⟩
theorem rdT_any {l : List Run} {x : Int} (h0 : 0 ≤ x) (h1 : x < (l.length : Int)) : rdT l x ∈ l := by
  obtain ⟨i, rfl⟩ : ∃ i : Nat, x = i := ⟨x.toNat, by omega⟩
  exact rdT_mem (by omega)
theorem nvB_all {n : Int} {l : List Run} (hv : nvB n l = true) {r : Run} (hr : r ∈ l) : (0 ≤ r.f0 ∧ r.f0 < n ∧ 0 ≤ r.f1 ∧ r.f1 < n ∧ r.f0 ≠ r.f1) ∧ (-100000 ≤ r.f2 ∧ r.f2 ≤ 100000) ∧ 1 ≤ r.f3 ∧ r.f3 ≤ 9 := by
  unfold nvB at hv
  rw [Bool.and_eq_true, List.all_eq_true] at hv
  have := hv.2 r hr
  unfold rvB at this
  exact of_decide_eq_true this
theorem numberRun_eq (k : Nat) {n : Int} {l : List Run} (hk : 1 < k) (hv : nvB n l = true) {x : Int} (hx : x ≠ 0 ∧ -(l.length : Int) ≤ x ∧ x ≤ l.length) :
    impl_numberRun.f k l x = some ((nrun l x).f0, (nrun l x).f1, (nrun l x).f2, (nrun l x).f3, true) := by
  have hn := nvB_n hv
  obtain ⟨k, rfl⟩ : ∃ m, k = m + 1 := ⟨k - 1, by omega⟩
  unfold impl_numberRun.f nrun
  rw [if_neg hx.1, nw64 (x := -(l.length : Int)) (by omega) (by omega), if_neg (by omega), decide_eq_false (by omega), impl_numberRun.j0, if_neg (by simp)]
  by_cases c : x > 0
  · rw [if_pos c, if_pos c, nw64 (x := x - 1) (by omega) (by omega), if_pos (by omega), if_pos (by omega)]
  · have hr := nvB_all hv (rdT_any (l := l) (x := -x - 1) (by omega) (by omega))
    dsimp only [rdT] at hr
    rw [if_neg c, if_neg c, nw64 (x := -x) (by omega) (by omega), nw64 (x := -x - 1) (by omega) (by omega), if_pos (by omega), if_pos (by omega), nw64 (x := -(rd_T32 l (-x - 1)).f2) (by omega) (by omega)]
theorem nrun_f2 (l : List Run) (x : Int) : (nrun l x).f2 = nrise l x := by
  unfold nrun nrise; split <;> rfl
/-- A chain of numbers. -/
def Ch (l : List Run) : Int → List Int → Int → Prop
  | a, [], b => a = b
  | a, x :: w, b => (x ≠ 0 ∧ -(l.length : Int) ≤ x ∧ x ≤ l.length) ∧ (nrun l x).f0 = a ∧ Ch l (nrun l x).f1 w b
theorem Way.ch {l : List Run} {t : List Int} (ht : ∀ k ∈ t, 0 ≤ k ∧ k < (l.length : Int)) {w : List Int} {a b : Int} (h : Way l t w a b) : Ch l a w b := by
  induction h with
  | nil a => exact rfl
  | @up k w b hk _ ih =>
    have := ht k hk
    have e : nrun l (k + 1) = rdT l k := by unfold nrun; rw [if_pos (by omega), show k + 1 - 1 = k by omega]
    exact ⟨by omega, by rw [e], by rw [e]; exact ih⟩
  | @dn k w b hk _ ih =>
    have := ht k hk
    have e : nrun l (-(k + 1)) = ⟨(rdT l k).f1, (rdT l k).f0, -(rdT l k).f2, (rdT l k).f3⟩ := by unfold nrun; rw [if_neg (by omega), show -(-(k + 1)) - 1 = k by omega]
    exact ⟨by omega, by rw [e], by rw [e]; exact ih⟩
theorem Ch.last {l : List Run} {b : Int} : ∀ (z : List Int) (y a : Int), Ch l a (z ++ [y]) b → (nrun l y).f1 = b ∧ y ≠ 0 ∧ -(l.length : Int) ≤ y ∧ y ≤ l.length
  | [], _, _, h => ⟨h.2.2, h.1⟩
  | _ :: z, y, _, h => Ch.last z y _ h.2.2
theorem LoopIs_l0 {n : Int} {l : List Run} (hv : nvB n l = true) (suf : List Int) : ∀ (pre : List Int) (a b : Int) (k : Nat), suf.length + 2 < k → pre.length + suf.length ≤ 100 → Ch l a suf b → impl_LoopIs.l0 k l a (pre ++ suf) ((pre ++ suf).length : Int) (pre.length : Int) = some true := by
  induction suf with
  | nil =>
    intro pre a b k hk _ _
    obtain ⟨k, rfl⟩ : ∃ m, k = m + 1 := ⟨k - 1, by omega⟩
    simp [impl_LoopIs.l0]
  | cons y suf ih =>
    intro pre a b k hk hl hc
    simp only [List.length_cons] at hk hl
    obtain ⟨k, rfl⟩ : ∃ m, k = m + 1 := ⟨k - 1, by omega⟩
    obtain ⟨hx, he, hh⟩ := hc
    · rw [impl_LoopIs.l0, if_pos (len_midI _ _ _), if_pos (by omega), if_pos (len_midI _ _ _), rd_midI, numberRun_eq k (by omega) hv hx]
      simp only [Option.bind_some]
      rw [if_pos trivial, if_pos he, next_midI pre y (by omega), app_midI pre suf y]
      exact ih (pre ++ [y]) _ b k (by omega) (by simp; omega) hh
theorem LoopIs_eq (k : Nat) {n : Int} {l : List Run} (hk : 50 < k) (hv : nvB n l = true) {w : List Int} {a : Int} (hl : 1 ≤ w.length ∧ w.length ≤ 12) (hc : Ch l a w a) : impl_LoopIs.f k n l w = some true := by
  obtain ⟨k, rfl⟩ : ∃ m, k = m + 1 := ⟨k - 1, by omega⟩
  unfold impl_LoopIs.f
  rw [impl_NetValid_eq (k + 1) n l (by omega), hv]
  simp only [Option.bind_some]
  rw [if_pos trivial, if_neg (by omega), decide_eq_false (by omega), impl_LoopIs.j0, if_neg (by simp), nw64 (x := (w.length : Int) - 1) (by omega) (by omega), if_pos (by omega), if_pos (by omega)]
  rcases List.eq_nil_or_concat w with rfl | ⟨z, y, e⟩
  · simp at hl
  · have e2 : w = z ++ [y] := by simpa using e
    obtain ⟨e3, hy⟩ := Ch.last z y a (e2 ▸ hc)
    have e4 : rd w ((w.length : Int) - 1) = y := by
      rw [e2, show (((z ++ [y]).length : Int) - 1) = (z.length : Int) by simp]
      exact rd_midI z [] y
    rw [e4, numberRun_eq k (by omega) hv hy]
    simp only [Option.bind_some]
    rw [if_pos trivial, e3]
    have := LoopIs_l0 hv w [] a a k (by omega) (by simp; omega) hc
    simpa using this
theorem nrise_bd {n : Int} {l : List Run} (hv : nvB n l = true) {x : Int} (hx : x ≠ 0 ∧ -(l.length : Int) ≤ x ∧ x ≤ l.length) : -100000 ≤ nrise l x ∧ nrise l x ≤ 100000 := by
  unfold nrise
  split
  · have := nvB_all hv (rdT_any (l := l) (x := x - 1) (by omega) (by omega)); omega
  · have := nvB_all hv (rdT_any (l := l) (x := -x - 1) (by omega) (by omega)); omega
theorem LoopError_l0 {n : Int} {l : List Run} (hv : nvB n l = true) (suf : List Int) : ∀ (pre : List Int) (a b s : Int) (k : Nat), suf.length + 2 < k → pre.length + suf.length ≤ 100 → Ch l a suf b → -100000 * (pre.length : Int) ≤ s ∧ s ≤ 100000 * (pre.length : Int) →
    impl_LoopError.l0 k l s (pre ++ suf) ((pre ++ suf).length : Int) (pre.length : Int) = some (s + wsum l suf, true) := by
  induction suf with
  | nil =>
    intro pre a b s k hk _ _ _
    obtain ⟨k, rfl⟩ : ∃ m, k = m + 1 := ⟨k - 1, by omega⟩
    simp [impl_LoopError.l0, wsum]
  | cons y suf ih =>
    intro pre a b s k hk hl hc hs
    simp only [List.length_cons] at hk hl
    obtain ⟨k, rfl⟩ : ∃ m, k = m + 1 := ⟨k - 1, by omega⟩
    obtain ⟨hx, he, hh⟩ := hc
    · have hb := nrise_bd hv hx
      rw [impl_LoopError.l0, if_pos (len_midI _ _ _), if_pos (by omega), if_pos (len_midI _ _ _), rd_midI, numberRun_eq k (by omega) hv hx]
      simp only [Option.bind_some]
      rw [nrun_f2, nw64 (x := s + nrise l y) (by omega) (by omega), next_midI pre y (by omega), app_midI pre suf y, ih (pre ++ [y]) _ b _ k (by omega) (by simp; omega) hh (by simp; omega), wsum]
      congr 2; omega
theorem LoopError_eq (k : Nat) {n : Int} {l : List Run} (hk : 60 < k) (hv : nvB n l = true) {w : List Int} {a : Int} (hl : 1 ≤ w.length ∧ w.length ≤ 12) (hc : Ch l a w a) : impl_LoopError.f k n l w = some (wsum l w, true) := by
  unfold impl_LoopError.f
  rw [LoopIs_eq k (by omega) hv hl hc]
  simp only [Option.bind_some]
  rw [if_pos trivial]
  have := LoopError_l0 hv w [] a a 0 k (by omega) (by simp; omega) hc (by simp)
  simpa using this
end Go.Proofs.Ytmcfhmflncghiaa.Pure
namespace Go.Proofs.Ytmcfhmflncghiaa.Pure
open Go.RowKit Go.Proofs.Ytmcfhmflncghiaa.Q Go.Proofs.Ytmcfhmflncghiaa.TreeW Go.Proofs.YtmcfhmflncghiaaW.PrintWords Go.Proofs.YtmcfhmflncghiaaW.PrintLast Go.Proofs.YtmcfhmflncghiaaW.PrintMore
/-- A loop of a run beside the tree. -/
theorem LoopOf_out (q : Nat) {n : Int} {l : List Run} (hq : 200 < q) (hw : wholeB n l = true) {i : Nat} (hi : i < l.length) (hm : (i : Int) ∉ ftree n l l.length) :
    ∃ w, impl_LoopOf.f q n l (i : Int) = some (((i : Int) + 1) :: w, true) ∧ Way l (ftree n l l.length) w (rdT l i).f1 (rdT l i).f0 ∧ w.length ≤ 5 := by
  have hv := (wholeB_iff.1 hw).1
  have hn := nvB_n hv
  have hVL := nvB_VL hv
  have hlt := ft_lt n l l.length
  have htl := ft_len n l l.length
  have hx : ∀ x ∈ ftree n l l.length, 0 ≤ x ∧ x < (l.length : Int) := fun x hm => hlt x hm
  have hr := hVL _ (rdT_mem hi)
  have hlk : Lk (pk l (ftree n l l.length)) (rdT l i).f1 (rdT l i).f0 := by
    refine ft_lk (by omega) hVL l.length (Nat.le_refl _) _ _ ?_
    rw [List.take_length]
    exact (Lk.run (rdT_mem hi)).symm
  obtain ⟨w, e1, e2, e3⟩ := treeR_ok (by omega) hVL (by omega) hx (by omega) ⟨hr.2.2.1, hr.2.2.2⟩ ⟨hr.1, hr.2.1⟩ hlk
  refine ⟨w, ?_, e2, e3⟩
  have et : impl_treeWay.f l (ftree n l l.length) (rd_T32 l (i : Int)).f1 (rd_T32 l (i : Int)).f0 = some w := e1
  unfold impl_LoopOf.f
  rw [TreeFirst_eq q (by omega) hw]
  simp only [Option.bind_some]
  rw [if_pos trivial, if_neg (by omega), if_neg (by omega), Contains_eq q _ (by omega) (by omega), decide_eq_false hm]
  simp only [Option.bind_some]
  rw [if_neg (by simp), if_pos (by omega), if_pos (by omega), et]
  simp only [Option.bind_some]
  rw [if_pos (by simp; omega), nw64 (x := (i : Int) + 1) (by omega) (by omega)]
  rfl
theorem LoopOf_in (q : Nat) {n : Int} {l : List Run} (hq : 200 < q) (hw : wholeB n l = true) {i : Nat} (hi : i < l.length) (hm : (i : Int) ∈ ftree n l l.length) : impl_LoopOf.f q n l (i : Int) = some ([], false) := by
  have hv := (wholeB_iff.1 hw).1
  have hn := nvB_n hv
  have htl := ft_len n l l.length
  unfold impl_LoopOf.f
  rw [TreeFirst_eq q (by omega) hw]
  simp only [Option.bind_some]
  rw [if_pos trivial, if_neg (by omega), if_neg (by omega), Contains_eq q _ (by omega) (by omega), decide_eq_true hm]
  simp only [Option.bind_some]
  rw [if_pos trivial]
/-- The misfit of a run. -/
def err (l : List Run) (h : Int → Int) (i : Nat) : Int := (rdT l i).f2 - (h (rdT l i).f1 - h (rdT l i).f0)
def errF (l : List Run) (t : List Int) (h : Int → Int) : Nat → Nat → List Int
  | 0, _ => []
  | c + 1, i => if (i : Int) ∈ t then errF l t h c (i + 1) else err l h i :: errF l t h c (i + 1)
theorem LoopErrors_l0 {n : Int} {l : List Run} (hw : wholeB n l = true) {h : Int → Int} (hp : pot h (pk l (ftree n l l.length))) (c : Nat) : ∀ (i k : Nat) (acc : List Int), l.length - i = c → i ≤ l.length → c + 250 < k → acc.length + c ≤ 100 →
    impl_LoopErrors.l0 k n l acc (l.length : Int) (i : Int) = some (acc ++ errF l (ftree n l l.length) h c i, true) := by
  have hv := (wholeB_iff.1 hw).1
  have hn := nvB_n hv
  have hlt := ft_lt n l l.length
  induction c with
  | zero =>
    intro i k acc hc hi hk _
    obtain ⟨k, rfl⟩ : ∃ m, k = m + 1 := ⟨k - 1, by omega⟩
    rw [impl_LoopErrors.l0, if_neg (by omega)]
    simp [errF]
  | succ c ih =>
    intro i k acc hc hi hk ha
    obtain ⟨k, rfl⟩ : ∃ m, k = m + 1 := ⟨k - 1, by omega⟩
    have e1 : wrap64 ((i : Int) + 1) = ((i + 1 : Nat) : Int) := by rw [nw64 (by omega) (by omega)]; omega
    rw [impl_LoopErrors.l0, if_pos (by omega)]
    by_cases hm : (i : Int) ∈ ftree n l l.length
    · rw [LoopOf_in k (by omega) hw (by omega) hm]
      simp only [Option.bind_some]
      rw [if_neg (by simp), e1, ih (i + 1) k acc (by omega) (by omega) (by omega) (by omega), errF, if_pos hm]
    · obtain ⟨w, h1, h2, h3⟩ := LoopOf_out k (by omega) hw (show i < l.length by omega) hm
      rw [h1]
      simp only [Option.bind_some]
      have hch : Ch l (rdT l i).f0 (((i : Int) + 1) :: w) (rdT l i).f0 := by
        have e : nrun l ((i : Int) + 1) = rdT l i := by unfold nrun; rw [if_pos (by omega), show (i : Int) + 1 - 1 = (i : Int) by omega]
        exact ⟨by omega, by rw [e], by rw [e]; exact h2.ch (fun k hk => hlt k hk)⟩
      rw [if_pos trivial, LoopError_eq k (by omega) hv (by simp; omega) hch]
      simp only [Option.bind_some]
      have hs := h2.sum (fun k hk => (hlt k hk).1) hp
      have e2 : wsum l (((i : Int) + 1) :: w) = err l h i := by
        rw [wsum, hs, nrise, if_pos (by omega), show (i : Int) + 1 - 1 = (i : Int) by omega]
        unfold err; omega
      rw [if_pos (by omega), e2, e1, ih (i + 1) k _ (by omega) (by omega) (by omega) (by simp; omega), errF, if_neg hm]
      simp
theorem LoopErrors_eq (k : Nat) {n : Int} {l : List Run} (hk : 300 < k) (hw : wholeB n l = true) {h : Int → Int} (hp : pot h (pk l (ftree n l l.length))) : impl_LoopErrors.f k n l = some (errF l (ftree n l l.length) h l.length 0, true) := by
  have hn := nvB_n (wholeB_iff.1 hw).1
  unfold impl_LoopErrors.f
  rw [NetWhole_eq k n l (by omega), hw]
  simp only [Option.bind_some]
  rw [if_pos trivial]
  have := LoopErrors_l0 hw hp l.length 0 k [] (by omega) (by omega) (by omega) (by simp; omega)
  simpa using this
theorem errF_len (l : List Run) (t : List Int) (h : Int → Int) : ∀ (c i : Nat), (errF l t h c i).length ≤ c
  | 0, _ => by simp [errF]
  | c + 1, i => by
    have := errF_len l t h c (i + 1)
    rw [errF]; split
    · omega
    · rw [List.length_cons]; omega
theorem errF_all {l : List Run} {t : List Int} {h : Int → Int} : ∀ (c i : Nat), (∀ x ∈ errF l t h c i, x = 0) ↔ ∀ j, i ≤ j → j < i + c → (j : Int) ∉ t → err l h j = 0
  | 0, i => by simp [errF]; intro j h1 h2; omega
  | c + 1, i => by
    have ih := errF_all (l := l) (t := t) (h := h) c (i + 1)
    rw [errF]
    split
    · next hm =>
      rw [ih]
      constructor
      · intro H j h1 h2 h3
        by_cases q : j = i
        · rw [q] at h3; exact absurd hm h3
        · exact H j (by omega) (by omega) h3
      · exact fun H j h1 h2 h3 => H j (by omega) (by omega) h3
    · next hm =>
      constructor
      · intro H j h1 h2 h3
        by_cases q : j = i
        · rw [q]; exact H _ (by simp)
        · exact ih.1 (fun x hx => H x (by simp [hx])) j (by omega) (by omega) h3
      · intro H x hx
        rcases List.mem_cons.1 hx with q | q
        · rw [q]; exact H i (by omega) (by omega) hm
        · exact ih.2 (fun j h1 h2 h3 => H j (by omega) (by omega) h3) x q
theorem Closes_l0 (suf : List Int) : ∀ (pre : List Int) (k : Nat), suf.length < k → pre.length + suf.length < 100 → impl_LoopCloses.l0 k (pre ++ suf) ((pre ++ suf).length : Int) (pre.length : Int) = some (suf.all (fun x => decide (x = 0))) := by
  induction suf with
  | nil =>
    intro pre k hk _
    obtain ⟨k, rfl⟩ : ∃ m, k = m + 1 := ⟨k - 1, by omega⟩
    simp [impl_LoopCloses.l0]
  | cons y suf ih =>
    intro pre k hk hl
    simp only [List.length_cons] at hk hl
    obtain ⟨k, rfl⟩ : ∃ m, k = m + 1 := ⟨k - 1, by omega⟩
    rw [impl_LoopCloses.l0, if_pos (len_midI _ _ _), if_pos (by omega), if_pos (len_midI _ _ _), rd_midI]
    by_cases c : y = 0
    · rw [if_pos c, next_midI pre y (by omega), app_midI pre suf y, ih (pre ++ [y]) k (by omega) (by simp; omega)]
      simp [c]
    · rw [if_neg c]; simp [c]
/-- The program's LoopCloses, at a whole net, by heights of its tree. -/
theorem LoopCloses_eq (k : Nat) {n : Int} {l : List Run} (hk : 300 < k) (hw : wholeB n l = true) {h : Int → Int} (hp : pot h (pk l (ftree n l l.length))) : impl_LoopCloses.f k n l = some ((errF l (ftree n l l.length) h l.length 0).all (fun x => decide (x = 0))) := by
  have hn := nvB_n (wholeB_iff.1 hw).1
  have hl := errF_len l (ftree n l l.length) h l.length 0
  unfold impl_LoopCloses.f
  rw [LoopErrors_eq k hk hw hp]
  simp only [Option.bind_some]
  rw [if_pos trivial]
  have := Closes_l0 (errF l (ftree n l l.length) h l.length 0) [] k (by omega) (by simp; omega)
  simpa using this
theorem LoopCloses_none (k : Nat) {n : Int} {l : List Run} (hk : 300 < k) (hw : wholeB n l = false) : impl_LoopCloses.f k n l = some false := by
  unfold impl_LoopCloses.f impl_LoopErrors.f
  rw [NetWhole_eq k n l (by omega), hw]
  simp
theorem pot_iff {n : Int} {l : List Run} {h : Int → Int} (hp : pot h (pk l (ftree n l l.length))) : (errF l (ftree n l l.length) h l.length 0).all (fun x => decide (x = 0)) = true ↔ pot h l := by
  rw [List.all_eq_true]
  have := errF_all (l := l) (t := ftree n l l.length) (h := h) l.length 0
  constructor
  · intro H r hr
    have H2 := this.1 (fun x hx => of_decide_eq_true (H x hx))
    obtain ⟨i, hi, rfl⟩ := List.getElem_of_mem hr
    by_cases hm : (i : Int) ∈ ftree n l l.length
    · have := hp (rdT l i) (List.mem_map.2 ⟨(i : Int), hm, rfl⟩)
      rwa [rdT_get hi] at this
    · have := H2 i (by omega) (by omega) hm
      unfold err at this
      rw [rdT_get hi] at this
      omega
  · intro H x hx
    refine decide_eq_true (this.2 (fun j _ h2 _ => ?_) x hx)
    have := H _ (rdT_mem (l := l) (k := j) (by omega))
    unfold err; omega
theorem pot_sub {n : Int} {l : List Run} {h : Int → Int} (hp : pot h l) : pot h (pk l (ftree n l l.length)) := fun r hr => hp r (ft_sub (Nat.le_refl _) r hr)
/-- A whole net with heights closes. -/
theorem LoopCloses_pot (k : Nat) {n : Int} {l : List Run} (hk : 300 < k) (hw : wholeB n l = true) {h : Int → Int} (hp : pot h l) : impl_LoopCloses.f k n l = some true := by
  rw [LoopCloses_eq k hk hw (pot_sub hp), (pot_iff (pot_sub hp)).2 hp]
end Go.Proofs.Ytmcfhmflncghiaa.Pure
namespace Go.Proofs.Ytmcfhmflncghiaa.Pure
open Go.RowKit Go.Proofs.Ytmcfhmflncghiaa.Q Go.Proofs.Ytmcfhmflncghiaa.TreeW Go.Proofs.YtmcfhmflncghiaaW.PrintWords Go.Proofs.YtmcfhmflncghiaaW.PrintLast Go.Proofs.YtmcfhmflncghiaaW.PrintMore
/-- A tree has heights for any rises. -/
theorem ft_potG {n : Int} (hn : 0 ≤ n) {l : List Run} (hv : VL n l) (g : Int → Int) : ∀ m, m ≤ l.length → ∃ h : Int → Int, ∀ k ∈ ftree n l m, h (rdT l k).f1 - h (rdT l k).f0 = g k
  | 0, _ => ⟨fun _ => 0, by simp [ftree]⟩
  | m + 1, hm => by
    obtain ⟨h, hh⟩ := ft_potG hn hv g m (by omega)
    have hV := ft_VL (m := m) hv (by omega)
    have L := leastR_lst hn _ hV
    rw [ftree, ftStep]
    split
    · exact ⟨h, hh⟩
    · next c =>
      generalize hd : g m - (h (rdT l m).f1 - h (rdT l m).f0) = d
      have hcl : ∀ k ∈ ftree n l m, rd (leastR n (pk l (ftree n l m))) (rdT l k).f0 = rd (leastR n (pk l (ftree n l m))) (rdT l k).f1 := fun k hk => L.cl _ (List.mem_map.2 ⟨k, hk, rfl⟩)
      generalize leastR n (pk l (ftree n l m)) = o at c hcl
      refine ⟨fun v => if rd o v = rd o (rdT l m).f1 then h v + d else h v, fun k hk => ?_⟩
      rcases List.mem_append.1 hk with q | q
      · have e := hcl k q
        have := hh k q
        dsimp only
        rw [e]
        split <;> omega
      · rw [List.mem_singleton.1 q]
        dsimp only
        rw [if_pos rfl, if_neg c]
        omega
/-- The runs of a tree without one. -/
def wo (l : List Run) (t : List Int) (e : Int) : List Run := pk l (t.filter fun x => decide (x ≠ e))
theorem wo_mem {l : List Run} {t : List Int} {e : Int} {r : Run} : r ∈ wo l t e ↔ ∃ x ∈ t, x ≠ e ∧ rdT l x = r := by
  unfold wo pk
  rw [List.mem_map]
  constructor
  · rintro ⟨x, hx, rfl⟩
    have := List.mem_filter.1 hx
    exact ⟨x, this.1, of_decide_eq_true this.2, rfl⟩
  · rintro ⟨x, h1, h2, rfl⟩
    exact ⟨x, List.mem_filter.2 ⟨h1, decide_eq_true h2⟩, rfl⟩
/-- Each run is a bridge. -/
def Fo (l : List Run) (t : List Int) : Prop := ∀ x ∈ t, ¬ Lk (wo l t x) (rdT l x).f0 (rdT l x).f1
theorem ft_fo {n : Int} (hn : 0 ≤ n) {l : List Run} (hv : VL n l) {m : Nat} (hm : m ≤ l.length) : Fo l (ftree n l m) := by
  intro x hx hk
  obtain ⟨h, hh⟩ := ft_potG hn hv (fun k => if k = x then 1 else 0) m hm
  have := hk.const h fun r hr => by
    obtain ⟨y, h1, h2, rfl⟩ := wo_mem.1 hr
    have := hh y h1
    rw [if_neg h2] at this
    omega
  have e := hh x hx
  rw [if_pos rfl] at e
  omega
/-- Run x joins a with b. -/
def Inc (l : List Run) (x a b : Int) : Prop := ((rdT l x).f0 = a ∧ (rdT l x).f1 = b) ∨ ((rdT l x).f1 = a ∧ (rdT l x).f0 = b)
theorem Inc.lk {l : List Run} {E : List Run} {x a b : Int} (h : Inc l x a b) (hm : rdT l x ∈ E) : Lk E a b := by
  rcases h with ⟨rfl, rfl⟩ | ⟨rfl, rfl⟩
  · exact Lk.run hm
  · exact (Lk.run hm).symm
theorem Inc.no {l : List Run} {t : List Int} (hf : Fo l t) {x a b : Int} (h : Inc l x a b) (hx : x ∈ t) : ¬ Lk (wo l t x) b a := by
  rcases h with ⟨rfl, rfl⟩ | ⟨rfl, rfl⟩
  · exact fun q => hf x hx q.symm
  · exact fun q => hf x hx q
/-- The last departure. -/
theorem depart {l : List Run} {t : List Int} {e a b : Int} (h : Lk (wo l t e) a b) : a = b ∨ ∃ x ∈ t, x ≠ e ∧ ∃ c, Inc l x a c ∧ Lk (wo l t x) c b := by
  induction h with
  | refl => exact .inl rfl
  | @fwd r hm h ih =>
    obtain ⟨y, y1, y2, rfl⟩ := wo_mem.1 hm
    rcases ih with q | ⟨x, x1, x2, c, x3, x4⟩
    · exact .inr ⟨y, y1, y2, _, .inl ⟨q.symm, rfl⟩, .refl _⟩
    · by_cases z : y = x
      · subst z
        rcases x3 with ⟨u1, u2⟩ | ⟨u1, u2⟩
        · exact .inr ⟨y, y1, y2, _, .inl ⟨u1, rfl⟩, .refl _⟩
        · exact .inl u1.symm
      · exact .inr ⟨x, x1, x2, c, x3, .fwd (wo_mem.2 ⟨y, y1, z, rfl⟩) x4⟩
  | @bwd r hm h ih =>
    obtain ⟨y, y1, y2, rfl⟩ := wo_mem.1 hm
    rcases ih with q | ⟨x, x1, x2, c, x3, x4⟩
    · exact .inr ⟨y, y1, y2, _, .inr ⟨q.symm, rfl⟩, .refl _⟩
    · by_cases z : y = x
      · subst z
        rcases x3 with ⟨u1, u2⟩ | ⟨u1, u2⟩
        · exact .inl u1.symm
        · exact .inr ⟨y, y1, y2, _, .inr ⟨u1, rfl⟩, .refl _⟩
      · exact .inr ⟨x, x1, x2, c, x3, .bwd (wo_mem.2 ⟨y, y1, z, rfl⟩) x4⟩
/-- How many of the nodes. -/
noncomputable def cntP (n : Int) (P : Int → Prop) : Nat := ((List.range n.toNat).filter fun (i : Nat) => @decide (P i) (Classical.propDecidable _)).length
theorem filt_le (P Q : Nat → Bool) : ∀ n, (∀ i, i < n → P i = true → Q i = true) → ((List.range n).filter P).length ≤ ((List.range n).filter Q).length
  | 0, _ => by simp
  | n + 1, h => by
    have ih := filt_le P Q n (fun i hi => h i (by omega))
    have := h n (by omega)
    rw [List.range_succ, List.filter_append, List.filter_append, List.length_append, List.length_append]
    simp only [List.filter_cons, List.filter_nil]
    cases hp : P n <;> cases hq : Q n <;> simp [hp, hq] at this ⊢ <;> omega
theorem filt_lt (P Q : Nat → Bool) (z : Nat) : ∀ n, z < n → (∀ i, i < n → P i = true → Q i = true) → P z = false → Q z = true → ((List.range n).filter P).length < ((List.range n).filter Q).length
  | 0, h, _, _, _ => by omega
  | n + 1, hz, h, h0, h1 => by
    rw [List.range_succ, List.filter_append, List.filter_append, List.length_append, List.length_append]
    simp only [List.filter_cons, List.filter_nil]
    by_cases q : z = n
    · subst q
      have := filt_le P Q z (fun i hi => h i (by omega))
      simp [h0, h1]; omega
    · have ih := filt_lt P Q z n (by omega) (fun i hi => h i (by omega)) h0 h1
      have := h n (by omega)
      cases hp : P n <;> cases hq : Q n <;> simp [hp, hq] at this ⊢ <;> omega
theorem cntP_lt {n : Int} {P Q : Int → Prop} (h : ∀ v, 0 ≤ v → v < n → P v → Q v) {z : Int} (z0 : 0 ≤ z ∧ z < n) (h0 : ¬ P z) (h1 : Q z) : cntP n P < cntP n Q := by
  obtain ⟨z, rfl⟩ : ∃ i : Nat, z = i := ⟨z.toNat, by omega⟩
  refine filt_lt _ _ z _ (by omega) (fun i hi e => ?_) (by simpa using h0) (by simpa using h1)
  simp only [decide_eq_true_eq] at e ⊢
  exact h i (by omega) (by omega) e
theorem cntP_le (n : Int) (P : Int → Prop) : cntP n P ≤ n.toNat := by
  unfold cntP
  have := List.length_filter_le (fun (i : Nat) => @decide (P i) (Classical.propDecidable _)) (List.range n.toNat)
  rwa [List.length_range] at this
/-- How many nodes are reached without the last run. -/
noncomputable def mu (n : Int) (l : List Run) (t : List Int) (a e : Int) : Nat := cntP n (Lk (wo l t e) a)
/-- The last run ends at a. -/
def La (l : List Run) (t : List Int) (e a : Int) : Prop := e ∈ t → (rdT l e).f0 = a ∨ (rdT l e).f1 = a
theorem mu_lt {n : Int} {l : List Run} {t : List Int} (hf : Fo l t) {e a x b : Int} (ha : 0 ≤ a ∧ a < n) (hl : La l t e a) (hx : x ∈ t) (hxe : x ≠ e) (hi : Inc l x a b) : mu n l t b x < mu n l t a e := by
  have hno := hi.no hf hx
  refine cntP_lt (fun v v0 v1 h => ?_) ha hno (.refl a)
  refine Lk.trans (hi.lk (wo_mem.2 ⟨x, hx, hxe, rfl⟩)) ?_
  clear hi v0 v1
  induction h with
  | refl => exact .refl _
  | @fwd r hm h ih =>
    obtain ⟨y, y1, y2, rfl⟩ := wo_mem.1 hm
    by_cases z : y = e
    · exfalso
      subst z
      rcases hl y1 with q | q
      · exact hno (q ▸ h)
      · exact hno (q ▸ h.fwd hm)
    · exact .fwd (wo_mem.2 ⟨y, y1, z, rfl⟩) ih
  | @bwd r hm h ih =>
    obtain ⟨y, y1, y2, rfl⟩ := wo_mem.1 hm
    by_cases z : y = e
    · exfalso
      subst z
      rcases hl y1 with q | q
      · exact hno (q ▸ h.bwd hm)
      · exact hno (q ▸ h)
    · exact .bwd (wo_mem.2 ⟨y, y1, z, rfl⟩) ih
theorem Inc.la {l : List Run} {t : List Int} {x a b : Int} (h : Inc l x a b) : La l t x b := by
  intro _
  rcases h with ⟨rfl, rfl⟩ | ⟨rfl, rfl⟩
  · exact .inr rfl
  · exact .inl rfl
theorem mu_pos {n : Int} {l : List Run} {t : List Int} {a e : Int} (ha : 0 ≤ a ∧ a < n) : 0 < mu n l t a e := by
  have : cntP n (fun _ => False) < mu n l t a e := cntP_lt (fun _ _ _ h => h.elim) ha (fun h => h) (.refl a)
  omega
theorem wayR {n : Int} {l : List Run} {t : List Int} (hll : l.length ≤ 12) (htl : t.length ≤ 5) (hv : VL n l) (hne : ∀ r ∈ l, r.f0 ≠ r.f1) (hx : ∀ x ∈ t, 0 ≤ x ∧ x < (l.length : Int)) (hf : Fo l t) (goal : Int) : ∀ (d : Nat) (a e : Int) (k : Nat), d ≤ 10 → 0 ≤ a ∧ a < n → La l t e a → mu n l t a e ≤ d → 25 * d + 5 < k →
    ∃ w b, spec_l13Way.f k l t a goal e = some (w, b) ∧ (b = true → Way l t w a goal ∧ w.length + 1 ≤ d) ∧ (Lk (wo l t e) a goal → b = true) := by
  intro d
  induction d with
  | zero =>
    intro a e k _ ha _ hm _
    have := mu_pos (l := l) (t := t) (e := e) ha
    omega
  | succ d ih =>
    intro a e k hd ha hla hm hk
    obtain ⟨k, rfl⟩ : ∃ m, k = m + 1 := ⟨k - 1, by omega⟩
    rw [spec_l13Way.f]
    by_cases c : a = goal
    · rw [if_pos c]
      exact ⟨[], true, rfl, fun _ => ⟨c ▸ .nil a, by simp⟩, fun _ => rfl⟩
    · rw [if_neg c]
      have loop : ∀ (suf pre : List Int) (k : Nat), pre ++ suf = t → 25 * d + 5 + 3 * suf.length + 1 < k →
          ∃ w b, spec_l13Way.l0 k l t a goal e (pre.length : Int) = some (w, b) ∧ (b = true → Way l t w a goal ∧ w.length + 1 ≤ d + 1) ∧ ((∃ x ∈ suf, x ≠ e ∧ ∃ c, Inc l x a c ∧ Lk (wo l t x) c goal) → b = true) := by
        intro suf
        induction suf with
        | nil =>
          intro pre k he hk
          obtain ⟨k, rfl⟩ : ∃ m, k = m + 1 := ⟨k - 1, by omega⟩
          rw [List.append_nil] at he
          rw [spec_l13Way.l0, he, if_neg (by omega)]
          exact ⟨[], false, rfl, by simp, by simp⟩
        | cons y suf ihs =>
          intro pre k he hk
          simp only [List.length_cons] at hk
          obtain ⟨k, rfl⟩ : ∃ m, k = m + 3 := ⟨k - 3, by omega⟩
          have hlen : pre.length + (suf.length + 1) = t.length := by rw [← he]; simp
          have hrd : rd t (pre.length : Int) = y := by rw [← he]; exact rd_midI pre suf y
          have hy : y ∈ t := by rw [← he]; simp
          have hy2 := hx y hy
          have hnx : wrap64 ((pre.length : Int) + 1) = ((pre ++ [y]).length : Int) := by rw [nw64 (by omega) (by omega)]; simp
          have ihn := fun k hk => ihs (pre ++ [y]) k (by rw [← he]; simp) hk
          have hyl := hx y hy
          have hm1 : rdT l y ∈ l := rdT_any hyl.1 hyl.2
          have hb := hv _ hm1
          have hne1 := hne _ hm1
          have skip : ∀ k, 25 * d + 5 + 3 * suf.length + 1 < k → (∀ c, y ≠ e → Inc l y a c → ¬ Lk (wo l t y) c goal) → ∃ w b, spec_l13Way.l0 k l t a goal e ((pre ++ [y]).length : Int) = some (w, b) ∧ (b = true → Way l t w a goal ∧ w.length + 1 ≤ d + 1) ∧ ((∃ x ∈ y :: suf, x ≠ e ∧ ∃ c, Inc l x a c ∧ Lk (wo l t x) c goal) → b = true) := by
            intro k hk hno
            obtain ⟨w, b, e1, e2, e3⟩ := ihn k hk
            refine ⟨w, b, e1, e2, ?_⟩
            rintro ⟨x, x1, x2, c, x3, x4⟩
            rcases List.mem_cons.1 x1 with rfl | q
            · exact absurd x4 (hno c x2 x3)
            · exact e3 ⟨x, q, x2, c, x3, x4⟩
          have go : ∀ (num nx : Int), y ≠ e → (∀ c, Inc l y a c → c = nx) → Inc l y a nx → (∀ w b, Way l t w nx b → Way l t (num :: w) a b) → ∃ w b, spec_l13Way.j2 (k + 1) l t a goal e (pre.length : Int) num nx false = some (w, b) ∧ (b = true → Way l t w a goal ∧ w.length + 1 ≤ d + 1) ∧ ((∃ x ∈ y :: suf, x ≠ e ∧ ∃ c, Inc l x a c ∧ Lk (wo l t x) c goal) → b = true) := by
            intro num nx hye hu hi hway
            have hnr : 0 ≤ nx ∧ nx < n := by rcases hi with ⟨_, q⟩ | ⟨_, q⟩ <;> rw [← q] <;> exact ⟨by omega, by omega⟩
            have hmu := mu_lt hf ha hla hy hye hi
            obtain ⟨w, b, e1, e2, e3⟩ := ih nx y k (by omega) hnr hi.la (by omega) (by omega)
            rw [spec_l13Way.j2, if_neg (by simp), if_pos (by omega), if_pos (by omega), hrd, e1]
            simp only [Option.bind_some]
            cases b with
            | true =>
              obtain ⟨w1, w2⟩ := e2 rfl
              rw [if_pos rfl, if_pos (by simp; omega)]
              exact ⟨_, _, rfl, fun _ => ⟨hway w goal w1, by simp; omega⟩, fun _ => rfl⟩
            | false =>
              rw [if_neg (by simp), hnx]
              exact skip k (by omega) (fun c _ h1 h2 => by
                rw [hu c h1] at h2
                have := e3 h2
                simp at this)
          rw [spec_l13Way.l0, if_pos (by omega), if_pos (by omega), hrd, hnx]
          by_cases c1 : y = e
          · rw [if_pos c1]
            exact skip (k + 2) (by omega) (fun c h => absurd c1 h)
          · rw [if_neg c1, if_pos hyl.1, if_pos hyl.2]
            by_cases c2 : (rd_T32 l y).f1 = a
            · rw [if_pos c2, spec_l13Way.j1, if_neg (show ¬ (rd_T32 l y).f0 = a by rw [← c2]; exact hne1)]
              have c2' : (rd_T32 l y).f1 = a := c2
              rw [c2', show ((a != a) = false) by simp, nw64 (x := y + 1) (by omega) (by omega), nw64 (x := -(y + 1)) (by omega) (by omega)]
              refine go _ _ c1 (fun c h => ?_) (.inr ⟨c2, rfl⟩) (fun w b h => ?_)
              · rcases h with ⟨q1, _⟩ | ⟨_, q2⟩
                · exact absurd (q1.trans c2.symm) hne1
                · exact q2.symm
              · rw [← c2]; exact .dn hy h
            · rw [if_neg c2, spec_l13Way.j1]
              by_cases c3 : (rd_T32 l y).f0 = a
              · rw [if_pos c3, nw64 (x := y + 1) (by omega) (by omega)]
                refine go _ _ c1 (fun c h => ?_) (.inl ⟨c3, rfl⟩) (fun w b h => ?_)
                · rcases h with ⟨_, q2⟩ | ⟨q1, _⟩
                  · exact q2.symm
                  · exact absurd q1 c2
                · rw [← c3]; exact .up hy h
              · rw [if_neg c3, show ((rd_T32 l y).f1 != a) = true by simpa using c2, spec_l13Way.j2, if_pos rfl, hnx]
                refine skip k (by omega) (fun c _ h => ?_)
                rcases h with ⟨q1, _⟩ | ⟨q1, _⟩
                · exact absurd q1 c3
                · exact absurd q1 c2
      obtain ⟨w, b, e1, e2, e3⟩ := loop t [] k (by simp) (by omega)
      refine ⟨w, b, e1, e2, fun h => e3 ?_⟩
      rcases depart h with q | q
      · exact absurd q c
      · exact q
end Go.Proofs.Ytmcfhmflncghiaa.Pure
namespace Go.Proofs.Ytmcfhmflncghiaa.Pure
open Go.RowKit Go.Proofs.Ytmcfhmflncghiaa.Q Go.Proofs.YtmcfhmflncghiaaW.PrintWords Go.Proofs.YtmcfhmflncghiaaW.PrintLast Go.Proofs.YtmcfhmflncghiaaW.PrintMore
theorem mn_min (a b : Int) : mn a b = min a b := by unfold mn; split <;> omega
theorem nx64 {i : Nat} (h : i < 1000) : wrap64 ((i : Int) + 1) = ((i + 1 : Nat) : Int) := by rw [nw64 (by omega) (by omega)]; omega
theorem Linked_l2 {n : Int} {l : List Run} (hv : VL n l) (hl : l.length ≤ 12) (j : Int) (c : Nat) : ∀ (i k : Nat) (o : List Int), l.length - i = c → i ≤ l.length → (o.length : Int) = n →
    spec_l11Linked.l2 (k + c + 1) n l o j (i : Int) = spec_l11Linked.l1 k n l (rnd (l.drop i) o) (wrap64 (j + 1)) ∧ ((rnd (l.drop i) o).length : Int) = n := by
  induction c with
  | zero =>
    intro i k o hc hi ho
    rw [spec_l11Linked.l2, if_neg (by omega), show i = l.length by omega, List.drop_length]
    exact ⟨rfl, ho⟩
  | succ c ih =>
    intro i k o hc hi ho
    have hr := hv _ (rdT_mem (l := l) (k := i) (by omega))
    have e := ih (i + 1) k (stp o (rdT l i)) (by omega) (by omega) (by simp [stp]; exact ho)
    have ed : l.drop i = rdT l i :: l.drop (i + 1) := by rw [List.drop_eq_getElem_cons (by omega), rdT_get (by omega)]
    rw [ed]
    show spec_l11Linked.l2 ((k + c + 1) + 1) n l o j (i : Int) = spec_l11Linked.l1 k n l (rnd (l.drop (i + 1)) (stp o (rdT l i))) (wrap64 (j + 1)) ∧ ((rnd (l.drop (i + 1)) (stp o (rdT l i))).length : Int) = n
    refine ⟨?_, e.2⟩
    rw [← e.1, spec_l11Linked.l2, if_pos (by omega), if_pos (by omega)]
    dsimp only [rdT] at hr
    rw [if_pos hr.1, if_pos (by omega), if_pos hr.2.2.1, if_pos (by omega), mn_min, nx64 (by omega)]
    rfl
theorem Linked_l1 {n : Int} {l : List Run} (hn : 0 ≤ n ∧ n ≤ 6) (hv : VL n l) (hl : l.length ≤ 12) (c : Nat) : ∀ (j k : Nat), n.toNat - j = c → j ≤ n.toNat → 14 * c < k → ((rnds l j (iota n)).length : Int) = n →
    spec_l11Linked.l1 k n l (rnds l j (iota n)) (j : Int) = some (leastR n l) := by
  induction c with
  | zero =>
    intro j k hc hj hk _
    obtain ⟨k, rfl⟩ : ∃ m, k = m + 1 := ⟨k - 1, by omega⟩
    rw [spec_l11Linked.l1, if_neg (by omega), show j = n.toNat by omega, rnds_least hn.1 hv]
  | succ c ih =>
    intro j k hc hj hk hlen
    obtain ⟨k, rfl⟩ : ∃ m, k = m + (l.length - 0) + 1 + 1 := ⟨k - (l.length - 0) - 2, by omega⟩
    have e := Linked_l2 hv hl (j : Int) (l.length - 0) 0 k (rnds l j (iota n)) rfl (by omega) hlen
    rw [List.drop_zero] at e
    rw [spec_l11Linked.l1, if_pos (by omega), show (0 : Int) = ((0 : Nat) : Int) from rfl, e.1, nx64 (by omega)]
    exact ih (j + 1) k (by omega) (by omega) (by omega) e.2
theorem iota_snoc (i : Nat) : iota (i : Int) ++ [(i : Int)] = iota ((i + 1 : Nat) : Int) := by
  unfold iota; rw [Int.toNat_natCast, Int.toNat_natCast, List.range_succ, List.map_append]; rfl
theorem Linked_l0 {n : Int} {l : List Run} (hn : 0 ≤ n ∧ n ≤ 6) (hv : VL n l) (hl : l.length ≤ 12) (c : Nat) : ∀ (i k : Nat), n.toNat - i = c → i ≤ n.toNat → c + 90 < k →
    spec_l11Linked.l0 k n l (iota (i : Int)) (i : Int) = some (leastR n l) := by
  induction c with
  | zero =>
    intro i k hc hi hk
    obtain ⟨k, rfl⟩ : ∃ m, k = m + 1 := ⟨k - 1, by omega⟩
    have ei : (i : Int) = n := by omega
    rw [spec_l11Linked.l0, if_neg (by omega), ei]
    exact Linked_l1 hn hv hl n.toNat 0 k (by omega) (by omega) (by omega) (iota_len n hn.1)
  | succ c ih =>
    intro i k hc hi hk
    obtain ⟨k, rfl⟩ : ∃ m, k = m + 1 := ⟨k - 1, by omega⟩
    have hlen := iota_len (i : Int) (by omega)
    rw [spec_l11Linked.l0, if_pos (by omega), if_pos (by omega), nx64 (by omega), iota_snoc]
    exact ih (i + 1) k (by omega) (by omega) (by omega)
theorem Linked_eq (k : Nat) {n : Int} {l : List Run} (hk : 100 < k) (hn : 0 ≤ n ∧ n ≤ 6) (hv : VL n l) (hl : l.length ≤ 12) : spec_l11Linked.f k n l = some (leastR n l) := by
  unfold spec_l11Linked.f
  exact Linked_l0 hn hv hl n.toNat 0 k (by omega) (by omega) (by omega)
theorem sWhole_l0 (c : Nat) : ∀ (o : List Int) (i k : Nat), o.length - i = c → i ≤ o.length → o.length ≤ 100 → c < k → 0 < o.length → spec_NetWhole.l0 k o (i : Int) = some ((o.drop i).all (fun x => decide (x = 0))) := by
  induction c with
  | zero =>
    intro o i k hc hi _ hk h0
    obtain ⟨k, rfl⟩ : ∃ m, k = m + 1 := ⟨k - 1, by omega⟩
    rw [spec_NetWhole.l0, if_neg (by omega), show i = o.length by omega, List.drop_length, decide_eq_true (by omega)]; rfl
  | succ c ih =>
    intro o i k hc hi hl hk h0
    obtain ⟨k, rfl⟩ : ∃ m, k = m + 1 := ⟨k - 1, by omega⟩
    rw [spec_NetWhole.l0, if_pos (by omega), if_pos (by omega), rd_eq o i (by omega), List.drop_eq_getElem_cons (by omega), List.all_cons]
    by_cases q : o[i]'(by omega) = 0
    · rw [if_pos q, nx64 (by omega), ih o (i + 1) k (by omega) (by omega) hl (by omega) h0, decide_eq_true q, Bool.true_and]
    · rw [if_neg q, decide_eq_false q, Bool.false_and]
theorem spec_NetWhole_eq (k : Nat) (n : Int) (l : List Run) (hk : 150 < k) : spec_NetWhole.f k n l = some (wholeB n l) := by
  unfold spec_NetWhole.f spec_NetLinked.f wholeB
  rw [spec_NetValid_eq k n l (by omega)]
  simp only [Option.bind_some]
  by_cases hv : nvB n l = true
  · have hnn := nvB_n hv
    have hL := (leastR_lst (by omega) l (nvB_VL hv)).len
    rw [if_pos hv, Linked_eq k (by omega) (by omega) (nvB_VL hv) hnn.2.2]
    simp only [Option.bind_some]
    have := sWhole_l0 (leastR n l).length (leastR n l) 0 k (by omega) (by omega) (by omega) (by omega) (by omega)
    rw [List.drop_zero] at this
    rw [hv, Bool.true_and]
    exact this
  · obtain ⟨k, rfl⟩ : ∃ m, k = m + 1 := ⟨k - 1, by omega⟩
    rw [if_neg hv, Bool.eq_false_iff.2 hv, Bool.false_and]
    simp [spec_NetWhole.l0]
theorem Some_l0 {l : List Run} {t : List Int} (ht : t.length ≤ 20) (hx : ∀ x ∈ t, 0 ≤ x ∧ x < (l.length : Int)) (c : Nat) : ∀ (acc : List Run) (i k : Nat), t.length - i = c → i ≤ t.length → c < k → acc.length ≤ 100 + i →
    spec_l12Some.l0 k l t acc (i : Int) = some (acc ++ pk l (t.drop i)) := by
  induction c with
  | zero =>
    intro acc i k hc hi hk _
    obtain ⟨k, rfl⟩ : ∃ m, k = m + 1 := ⟨k - 1, by omega⟩
    rw [spec_l12Some.l0, if_neg (by omega), show i = t.length by omega, List.drop_length]
    simp [pk]
  | succ c ih =>
    intro acc i k hc hi hk ha
    obtain ⟨k, rfl⟩ : ∃ m, k = m + 1 := ⟨k - 1, by omega⟩
    have hy := hx _ (List.getElem_mem (l := t) (show i < t.length by omega))
    rw [spec_l12Some.l0, if_pos (by omega), if_pos (by omega), rd_eq t i (by omega), if_pos hy.1, if_pos hy.2, if_pos (by omega), nx64 (by omega), List.drop_eq_getElem_cons (by omega)]
    refine (ih _ (i + 1) k (by omega) (by omega) (by omega) (by simp; omega)).trans ?_
    rw [List.append_assoc]; rfl
theorem Some_eq (k : Nat) {l : List Run} {t : List Int} (hk : 30 < k) (ht : t.length ≤ 20) (hx : ∀ x ∈ t, 0 ≤ x ∧ x < (l.length : Int)) : spec_l12Some.f k l t = some (pk l t) := by
  unfold spec_l12Some.f
  have := Some_l0 ht hx t.length [] 0 k (by omega) (by omega) (by omega) (by simp)
  simpa using this
theorem sTreeFirst_l0 {n : Int} {l : List Run} (hv : nvB n l = true) (c : Nat) : ∀ (i k : Nat), l.length - i = c → i ≤ l.length → c + 120 < k →
    spec_TreeFirst.l0 k n l (ftree n l i) (i : Int) = some (ftree n l l.length, true) := by
  have hn := nvB_n hv
  have hVL := nvB_VL hv
  induction c with
  | zero =>
    intro i k hc hi hk
    obtain ⟨k, rfl⟩ : ∃ m, k = m + 1 := ⟨k - 1, by omega⟩
    rw [spec_TreeFirst.l0, if_neg (by omega), show i = l.length by omega]
  | succ c ih =>
    intro i k hc hi hk
    obtain ⟨k, rfl⟩ : ∃ m, k = m + 1 := ⟨k - 1, by omega⟩
    have hft := ft_len n l i
    have hlt := ft_lt n l i
    have hx : ∀ x ∈ ftree n l i, 0 ≤ x ∧ x < (l.length : Int) := fun x hm => by have := hlt x hm; omega
    have hpv := pk_valid hv (by omega) hx
    have hL := (leastR_lst (by omega) _ (nvB_VL hpv)).len
    have hr := hVL _ (rdT_mem (l := l) (k := i) (by omega))
    dsimp only [rdT] at hr
    have hnx := ih (i + 1) k (by omega) (by omega) (by omega)
    rw [ftree, ftStep] at hnx
    rw [spec_TreeFirst.l0, if_pos (by omega), Some_eq k (by omega) (by omega) hx]
    simp only [Option.bind_some]
    rw [Linked_eq k (by omega) (by omega) (nvB_VL hpv) (nvB_n hpv).2.2]
    simp only [Option.bind_some]
    rw [if_pos (by omega), if_pos hr.1, if_pos (by omega), if_pos hr.2.2.1, if_pos (by omega), nx64 (by omega)]
    split
    · next c1 =>
      rw [if_pos c1] at hnx
      exact hnx
    · next c1 =>
      rw [if_neg c1] at hnx
      rw [if_pos (by omega)]
      exact hnx
theorem spec_TreeFirst_eq (k : Nat) {n : Int} {l : List Run} (hk : 200 < k) (hw : wholeB n l = true) : spec_TreeFirst.f k n l = some (ftree n l l.length, true) := by
  have hv := (wholeB_iff.1 hw).1
  have hn := nvB_n hv
  unfold spec_TreeFirst.f
  simp only [Option.bind_some]
  rw [spec_NetWhole_eq k n l (by omega), hw]
  simp only [Option.bind_some]
  rw [if_pos trivial]
  exact sTreeFirst_l0 hv l.length 0 k (by omega) (by omega) (by omega)
theorem Has_l0 {t : List Int} (ht : t.length ≤ 20) (x : Int) (c : Nat) : ∀ (i k : Nat), t.length - i = c → i ≤ t.length → c < k → spec_l13Has.l0 k t x (i : Int) = some (decide (x ∈ t.drop i)) := by
  induction c with
  | zero =>
    intro i k hc hi hk
    obtain ⟨k, rfl⟩ : ∃ m, k = m + 1 := ⟨k - 1, by omega⟩
    rw [spec_l13Has.l0, if_neg (by omega), show i = t.length by omega, List.drop_length]
    simp
  | succ c ih =>
    intro i k hc hi hk
    obtain ⟨k, rfl⟩ : ∃ m, k = m + 1 := ⟨k - 1, by omega⟩
    rw [spec_l13Has.l0, if_pos (by omega), if_pos (by omega), rd_eq t i (by omega), List.drop_eq_getElem_cons (by omega)]
    by_cases q : t[i]'(by omega) = x
    · rw [if_pos q]; simp [q]
    · rw [if_neg q, nx64 (by omega), ih (i + 1) k (by omega) (by omega) (by omega)]
      congr 1; rw [decide_eq_decide, List.mem_cons]
      exact ⟨.inr, fun h => h.resolve_left fun e => q e.symm⟩
theorem Has_eq (k : Nat) {t : List Int} (x : Int) (hk : 30 < k) (ht : t.length ≤ 20) : spec_l13Has.f k t x = some (decide (x ∈ t)) := by
  unfold spec_l13Has.f
  exact Has_l0 ht x t.length 0 k (by omega) (by omega) (by omega)
theorem sError_l0 {n : Int} {l : List Run} (hv : nvB n l = true) (suf : List Int) : ∀ (pre : List Int) (a b s : Int) (k : Nat), suf.length + 2 < k → pre.length + suf.length ≤ 100 → Ch l a suf b → -100000 * (pre.length : Int) ≤ s ∧ s ≤ 100000 * (pre.length : Int) →
    spec_l13Error.l0 k l (pre ++ suf) s (pre.length : Int) = some (s + wsum l suf) := by
  have hn := nvB_n hv
  induction suf with
  | nil =>
    intro pre a b s k hk _ _ _
    obtain ⟨k, rfl⟩ : ∃ m, k = m + 1 := ⟨k - 1, by omega⟩
    simp [spec_l13Error.l0, wsum]
  | cons y suf ih =>
    intro pre a b s k hk hl hc hs
    simp only [List.length_cons] at hk hl
    obtain ⟨k, rfl⟩ : ∃ m, k = m + 1 := ⟨k - 1, by omega⟩
    obtain ⟨hx, he, hh⟩ := hc
    have hb := nrise_bd hv hx
    have hnx := ih (pre ++ [y]) _ b (s + nrise l y) k (by omega) (by simp; omega) hh (by simp; omega)
    rw [spec_l13Error.l0, if_pos (len_midI _ _ _), if_pos (by omega), rd_midI, next_midI pre y (by omega), app_midI pre suf y]
    have fin : s + nrise l y + wsum l suf = s + wsum l (y :: suf) := by rw [wsum]; omega
    rw [fin] at hnx
    by_cases c : y > 0
    · have en : nrise l y = (rd_T32 l (y - 1)).f2 := by unfold nrise; rw [if_pos c]
      rw [en] at hnx hb
      rw [if_pos c, nw64 (x := y - 1) (by omega) (by omega), if_pos (by omega), if_pos (by omega), nw64 (by omega) (by omega)]
      exact hnx
    · have en : nrise l y = -(rd_T32 l (-y - 1)).f2 := by unfold nrise; rw [if_neg c]
      rw [en] at hnx hb
      rw [if_neg c, nw64 (x := -y) (by omega) (by omega), nw64 (x := -y - 1) (by omega) (by omega), if_pos (by omega), if_pos (by omega), nw64 (by omega) (by omega)]
      exact hnx
theorem sError_eq (k : Nat) {n : Int} {l : List Run} (hk : 60 < k) (hv : nvB n l = true) {w : List Int} {a b : Int} (hl : w.length ≤ 12) (hc : Ch l a w b) : spec_l13Error.f k l w = some (wsum l w) := by
  unfold spec_l13Error.f
  have := sError_l0 hv w [] a b 0 k (by omega) (by simp; omega) hc (by simp)
  simpa using this
theorem sLoopOf_out (q : Nat) {n : Int} {l : List Run} (hq : 300 < q) (hw : wholeB n l = true) {i : Nat} (hi : i < l.length) (hm : (i : Int) ∉ ftree n l l.length) :
    ∃ w, spec_LoopOf.f q n l (i : Int) = some (((i : Int) + 1) :: w, true) ∧ Way l (ftree n l l.length) w (rdT l i).f1 (rdT l i).f0 ∧ w.length ≤ 5 := by
  have hv := (wholeB_iff.1 hw).1
  have hn := nvB_n hv
  have hVL := nvB_VL hv
  have hlt := ft_lt n l l.length
  have htl := ft_len n l l.length
  have hx : ∀ x ∈ ftree n l l.length, 0 ≤ x ∧ x < (l.length : Int) := fun x hm => hlt x hm
  have hr := hVL _ (rdT_mem hi)
  have hsz : (ftree n l l.length).length ≤ 5 := by
    have h1 := ft_parts (by omega) hVL l.length (Nat.le_refl _)
    have h2 : parts (leastR n (pk l (ftree n l l.length))) = 1 := parts_whole (by omega) (ft_VL (m := l.length) hVL (Nat.le_refl _)) fun v v0 v1 => by
      refine ft_lk (by omega) hVL l.length (Nat.le_refl _) _ _ ?_
      rw [List.take_length]
      exact (wholeB_iff.1 hw).2 v v0 v1
    omega
  have hlk : Lk (pk l (ftree n l l.length)) (rdT l i).f1 (rdT l i).f0 := by
    refine ft_lk (by omega) hVL l.length (Nat.le_refl _) _ _ ?_
    rw [List.take_length]
    exact (Lk.run (rdT_mem hi)).symm
  have hwo : wo l (ftree n l l.length) (-1) = pk l (ftree n l l.length) := by
    unfold wo
    rw [List.filter_eq_self.2 (fun x hm => decide_eq_true (by have := hlt x hm; omega))]
  have hmu : mu n l (ftree n l l.length) (rdT l i).f1 (-1) ≤ 6 := Nat.le_trans (cntP_le n _) (by omega)
  obtain ⟨w, b, e1, e2, e3⟩ := wayR hn.2.2 hsz hVL (fun r hr => (nvB_all hv hr).1.2.2.2.2) hx (ft_fo (by omega) hVL (Nat.le_refl _)) (rdT l i).f0 6 (rdT l i).f1 (-1) q (by omega) ⟨hr.2.2.1, hr.2.2.2⟩ (fun hm => absurd (hx _ hm).1 (by omega)) hmu (by omega)
  have hb := e3 (hwo ▸ hlk)
  subst hb
  obtain ⟨w1, w2⟩ := e2 rfl
  refine ⟨w, ?_, w1, by omega⟩
  have et : spec_l13Way.f q l (ftree n l l.length) (rd_T32 l (i : Int)).f1 (rd_T32 l (i : Int)).f0 (-1) = some (w, true) := e1
  unfold spec_LoopOf.f
  rw [spec_TreeFirst_eq q (by omega) hw]
  simp only [Option.bind_some]
  rw [if_pos trivial, n6In_eq, nw64 (x := (l.length : Int) - 1) (by omega) (by omega), decide_eq_true (by omega)]
  simp only [Option.bind_some]
  rw [if_pos trivial, Has_eq q _ (by omega) (by omega), decide_eq_false hm]
  simp only [Option.bind_some]
  rw [if_neg (by simp), if_pos (by omega), if_pos (by omega), et]
  simp only [Option.bind_some]
  rw [if_pos (by simp; omega), nw64 (x := (i : Int) + 1) (by omega) (by omega)]
  rfl
theorem sLoopOf_in (q : Nat) {n : Int} {l : List Run} (hq : 300 < q) (hw : wholeB n l = true) {i : Nat} (hi : i < l.length) (hm : (i : Int) ∈ ftree n l l.length) : spec_LoopOf.f q n l (i : Int) = some ([], false) := by
  have hv := (wholeB_iff.1 hw).1
  have hn := nvB_n hv
  have htl := ft_len n l l.length
  unfold spec_LoopOf.f
  rw [spec_TreeFirst_eq q (by omega) hw]
  simp only [Option.bind_some]
  rw [if_pos trivial, n6In_eq, nw64 (x := (l.length : Int) - 1) (by omega) (by omega), decide_eq_true (by omega)]
  simp only [Option.bind_some]
  rw [if_pos trivial, Has_eq q _ (by omega) (by omega), decide_eq_true hm]
  simp only [Option.bind_some]
  rw [if_pos trivial]
theorem sLoopErrors_l0 {n : Int} {l : List Run} (hw : wholeB n l = true) {h : Int → Int} (hp : pot h (pk l (ftree n l l.length))) (c : Nat) : ∀ (i k : Nat) (acc : List Int), l.length - i = c → i ≤ l.length → c + 350 < k → acc.length + c ≤ 100 →
    spec_LoopErrors.l0 k n l acc (i : Int) = some (acc ++ errF l (ftree n l l.length) h c i, true) := by
  have hv := (wholeB_iff.1 hw).1
  have hn := nvB_n hv
  have hlt := ft_lt n l l.length
  induction c with
  | zero =>
    intro i k acc hc hi hk _
    obtain ⟨k, rfl⟩ : ∃ m, k = m + 1 := ⟨k - 1, by omega⟩
    rw [spec_LoopErrors.l0, if_neg (by omega)]
    simp [errF]
  | succ c ih =>
    intro i k acc hc hi hk ha
    obtain ⟨k, rfl⟩ : ∃ m, k = m + 1 := ⟨k - 1, by omega⟩
    rw [spec_LoopErrors.l0, if_pos (by omega)]
    by_cases hm : (i : Int) ∈ ftree n l l.length
    · rw [sLoopOf_in k (by omega) hw (by omega) hm]
      simp only [Option.bind_some]
      rw [if_neg (by simp), nx64 (by omega), ih (i + 1) k acc (by omega) (by omega) (by omega) (by omega), errF, if_pos hm]
    · obtain ⟨w, h1, h2, h3⟩ := sLoopOf_out k (by omega) hw (show i < l.length by omega) hm
      rw [h1]
      simp only [Option.bind_some]
      have hch : Ch l (rdT l i).f0 (((i : Int) + 1) :: w) (rdT l i).f0 := by
        have e : nrun l ((i : Int) + 1) = rdT l i := by unfold nrun; rw [if_pos (by omega), show (i : Int) + 1 - 1 = (i : Int) by omega]
        exact ⟨by omega, by rw [e], by rw [e]; exact h2.ch (fun k hk => hlt k hk)⟩
      rw [if_pos trivial, sError_eq k (by omega) hv (by simp; omega) hch]
      simp only [Option.bind_some]
      have hs := h2.sum (fun k hk => (hlt k hk).1) hp
      have e2 : wsum l (((i : Int) + 1) :: w) = err l h i := by
        rw [wsum, hs, nrise, if_pos (by omega), show (i : Int) + 1 - 1 = (i : Int) by omega]
        unfold err; omega
      rw [if_pos (by omega), e2, nx64 (by omega), ih (i + 1) k _ (by omega) (by omega) (by omega) (by simp; omega), errF, if_neg hm]
      simp
theorem spec_LoopErrors_eq (k : Nat) {n : Int} {l : List Run} (hk : 400 < k) (hw : wholeB n l = true) {h : Int → Int} (hp : pot h (pk l (ftree n l l.length))) : spec_LoopErrors.f k n l = some (errF l (ftree n l l.length) h l.length 0, true) := by
  have hn := nvB_n (wholeB_iff.1 hw).1
  unfold spec_LoopErrors.f
  simp only [Option.bind_some]
  rw [spec_NetWhole_eq k n l (by omega), hw]
  simp only [Option.bind_some]
  rw [if_pos trivial]
  have := sLoopErrors_l0 hw hp l.length 0 k [] (by omega) (by omega) (by omega) (by simp; omega)
  simpa using this
theorem spec_LoopErrors_none (k : Nat) {n : Int} {l : List Run} (hk : 400 < k) (hw : wholeB n l = false) : spec_LoopErrors.f k n l = some ([], false) := by
  unfold spec_LoopErrors.f
  simp only [Option.bind_some]
  rw [spec_NetWhole_eq k n l (by omega), hw]
  simp
theorem sCloses_l0 (b : Bool) (c : Nat) : ∀ (o : List Int) (i k : Nat), o.length - i = c → i ≤ o.length → o.length ≤ 100 → c < k → spec_LoopCloses.l0 k o b (i : Int) = some ((o.drop i).all (fun x => decide (x = 0)) && b) := by
  induction c with
  | zero =>
    intro o i k hc hi _ hk
    obtain ⟨k, rfl⟩ : ∃ m, k = m + 1 := ⟨k - 1, by omega⟩
    rw [spec_LoopCloses.l0, if_neg (by omega), show i = o.length by omega, List.drop_length]; simp
  | succ c ih =>
    intro o i k hc hi hl hk
    obtain ⟨k, rfl⟩ : ∃ m, k = m + 1 := ⟨k - 1, by omega⟩
    rw [spec_LoopCloses.l0, if_pos (by omega), if_pos (by omega), rd_eq o i (by omega), List.drop_eq_getElem_cons (by omega), List.all_cons]
    by_cases q : o[i]'(by omega) = 0
    · rw [if_pos q, nx64 (by omega), ih o (i + 1) k (by omega) (by omega) hl (by omega), decide_eq_true q, Bool.true_and]
    · rw [if_neg q, decide_eq_false q, Bool.false_and, Bool.false_and]
theorem spec_LoopCloses_eq (k : Nat) {n : Int} {l : List Run} (hk : 400 < k) (hw : wholeB n l = true) {h : Int → Int} (hp : pot h (pk l (ftree n l l.length))) : spec_LoopCloses.f k n l = some ((errF l (ftree n l l.length) h l.length 0).all (fun x => decide (x = 0))) := by
  have hn := nvB_n (wholeB_iff.1 hw).1
  have hl := errF_len l (ftree n l l.length) h l.length 0
  unfold spec_LoopCloses.f
  rw [spec_LoopErrors_eq k hk hw hp]
  simp only [Option.bind_some]
  have := sCloses_l0 true (errF l (ftree n l l.length) h l.length 0).length (errF l (ftree n l l.length) h l.length 0) 0 k (by omega) (by omega) (by omega) (by omega)
  rw [List.drop_zero, Bool.and_true] at this
  exact this
theorem spec_LoopCloses_none (k : Nat) {n : Int} {l : List Run} (hk : 400 < k) (hw : wholeB n l = false) : spec_LoopCloses.f k n l = some false := by
  unfold spec_LoopCloses.f
  rw [spec_LoopErrors_none k hk hw]
  simp only [Option.bind_some]
  exact sCloses_l0 false 0 [] 0 k (by simp) (by simp) (by simp) (by omega)
end Go.Proofs.Ytmcfhmflncghiaa.Pure
namespace Go.Proofs.Ytmcfhmflncghiaa.Pure
open Go.RowKit Go.Proofs.Ytmcfhmflncghiaa.Q Go.Proofs.YtmcfhmflncghiaaW.PrintWords Go.Proofs.YtmcfhmflncghiaaW.PrintLast Go.Proofs.YtmcfhmflncghiaaW.PrintMore
theorem countb_le : ∀ (o o' : List Bool), o.length = o'.length → (∀ i : Nat, (h : i < o.length) → (h' : i < o'.length) → o[i] = true → o'[i] = true) → o'.count false ≤ o.count false
  | [], [], _, _ => Nat.le_refl _
  | x :: o, y :: o', hl, h => by
    have ih := countb_le o o' (by simpa using hl) (fun i h1 h2 e => by have := h (i + 1) (by simp; omega) (by simp; omega) (by simpa using e); simpa using this)
    have h0 := h 0 (by simp) (by simp)
    simp only [List.count_cons, List.getElem_cons_zero] at h0 ⊢
    cases x <;> cases y <;> simp at h0 ⊢ <;> omega
theorem countb_lt : ∀ (o o' : List Bool), o.length = o'.length → (∀ i : Nat, (h : i < o.length) → (h' : i < o'.length) → o[i] = true → o'[i] = true) → (j : Nat) → (h : j < o.length) → (h' : j < o'.length) → o[j] = false → o'[j] = true → o'.count false < o.count false
  | [], _, _, _, j, h, _, _, _ => by simp at h
  | x :: o, [], hl, _, _, _, _, _, _ => by simp at hl
  | x :: o, y :: o', hl, h, j, hj, hj', hn, he => by
    have hs : ∀ i : Nat, (h : i < o.length) → (h' : i < o'.length) → o[i] = true → o'[i] = true := fun i h1 h2 e => by have := h (i + 1) (by simp; omega) (by simp; omega) (by simpa using e); simpa using this
    have h0 := h 0 (by simp) (by simp)
    simp only [List.count_cons, List.getElem_cons_zero] at h0 ⊢
    cases j with
    | zero =>
      have ih := countb_le o o' (by simpa using hl) hs
      simp only [List.getElem_cons_zero] at hn he
      simp [hn, he]; omega
    | succ j =>
      have ih := countb_lt o o' (by simpa using hl) hs j (by simpa using hj) (by simpa using hj') (by simpa using hn) (by simpa using he)
      cases x <;> cases y <;> simp at h0 ⊢ <;> omega
theorem rdOf_eq (o : List Bool) (i : Nat) (h : i < o.length) : rdOf false o (i : Int) = o[i] := by
  unfold rdOf; simp [List.getD, h]
/-- Heights so far: of the known nodes those of h. -/
structure Hv (n : Int) (h : Int → Int) (x : List Int) (s : List Bool) : Prop where
  lx : (x.length : Int) = n
  ls : (s.length : Int) = n
  s0 : rdOf false s 0 = true
  val : ∀ v, 0 ≤ v → v < n → rdOf false s v = true → rd x v = h v - h 0
  bd : ∀ v, 0 ≤ v → v < n → -(100000 * (n - 1 - (s.count false : Int))) ≤ rd x v ∧ rd x v ≤ 100000 * (n - 1 - (s.count false : Int))
structure Ok (n : Int) (h : Int → Int) (r : Run) : Prop where
  a0 : 0 ≤ r.f0
  a1 : r.f0 < n
  b0 : 0 ≤ r.f1
  b1 : r.f1 < n
  lo : -100000 ≤ r.f2
  hi : r.f2 ≤ 100000
  p : h r.f1 - h r.f0 = r.f2
structure Hs (n : Int) (h : Int → Int) (rs : List Run) (s : List Bool) (x' : List Int) (s' : List Bool) : Prop where
  hv : Hv n h x' s'
  grow : ∀ v, 0 ≤ v → v < n → rdOf false s v = true → rdOf false s' v = true
  cl : ∀ r ∈ rs, rdOf false s r.f0 = true ∨ rdOf false s r.f1 = true → rdOf false s' r.f0 = true ∧ rdOf false s' r.f1 = true
theorem hset {n : Int} (hn : n ≤ 6) {h : Int → Int} {x : List Int} {s : List Bool} (H : Hv n h x s) {a b y : Int} (hb : 0 ≤ b ∧ b < n) (hk : rdOf false s b = false) (hy : y = h b - h 0) (ha : rd x a - 100000 ≤ y ∧ y ≤ rd x a + 100000) (ha0 : 0 ≤ a ∧ a < n) : Hv n h (x.set b.toNat y) (s.set b.toNat true) := by
  have lx := H.lx; have ls := H.ls
  have hc := count_rdOf s b hb.1 (by omega) hk
  have sx := fun v v0 (v1 : v < n) => rd_set x b v y hb.1 v0 (show v < (x.length : Int) by omega)
  have ss := fun v v0 (v1 : v < n) => rdOf_set s b v true hb.1 v0 (show v < (s.length : Int) by omega)
  refine ⟨by rw [List.length_set]; exact lx, by rw [List.length_set]; exact ls, ?_, fun v v0 v1 e => ?_, fun v v0 v1 => ?_⟩
  · rw [ss 0 (by omega) (by omega)]; split; rfl; exact H.s0
  · rw [ss v v0 v1] at e
    rw [sx v v0 v1]
    split
    · next q => rw [q]; exact hy
    · next q => rw [if_neg q] at e; exact H.val v v0 v1 e
  · have hbd := H.bd a ha0.1 ha0.2
    have hbv := H.bd v v0 v1
    rw [sx v v0 v1]
    split <;> omega
theorem hl1 {n : Int} (hn : n ≤ 6) {h : Int → Int} {l : List Run} {t : List Int} {X I : Int} (suf : List Run) : ∀ (pre : List Run) (x : List Int) (s : List Bool) (k : Nat), pre.length + suf.length ≤ 100 → (∀ r ∈ suf, Ok n h r) → Hv n h x s →
    ∃ x' s', impl_TreeHeights.l1 (k + 2 * suf.length + 1) l t x s X I (pre ++ suf) ((pre ++ suf).length : Int) (pre.length : Int) = impl_TreeHeights.l0 k l t x' s' X (wrap64 (I + 1)) ∧ Hs n h suf s x' s' := by
  induction suf with
  | nil =>
    intro pre x s k _ _ H
    refine ⟨x, s, ?_, H, fun _ _ _ e => e, by simp⟩
    rw [List.length_nil, Nat.mul_zero, Nat.add_zero, impl_TreeHeights.l1, if_neg (by simp)]
  | cons y suf ih =>
    intro pre x s k hl hr H
    simp only [List.length_cons] at hl
    have hy := hr y (by simp)
    have a0 := hy.a0; have a1 := hy.a1; have b0 := hy.b0; have b1 := hy.b1; have lo := hy.lo; have hi := hy.hi; have hp := hy.p
    have lx := H.lx; have ls := H.ls
    have ihn := fun x s H => ih (pre ++ [y]) x s k (by simp; omega) (fun r hm => hr r (by simp [hm])) H
    have fin : ∀ (x1 : List Int) (s1 : List Bool), Hv n h x1 s1 → (∀ v, 0 ≤ v → v < n → rdOf false s v = true → rdOf false s1 v = true) → (rdOf false s y.f0 = true ∨ rdOf false s y.f1 = true → rdOf false s1 y.f0 = true ∧ rdOf false s1 y.f1 = true) →
        impl_TreeHeights.l1 (k + 2 * (y :: suf).length + 1) l t x s X I (pre ++ y :: suf) ((pre ++ y :: suf).length : Int) (pre.length : Int) = impl_TreeHeights.l1 (k + 2 * suf.length + 1) l t x1 s1 X I ((pre ++ [y]) ++ suf) (((pre ++ [y]) ++ suf).length : Int) ((pre ++ [y]).length : Int) →
        ∃ x' s', impl_TreeHeights.l1 (k + 2 * (y :: suf).length + 1) l t x s X I (pre ++ y :: suf) ((pre ++ y :: suf).length : Int) (pre.length : Int) = impl_TreeHeights.l0 k l t x' s' X (wrap64 (I + 1)) ∧ Hs n h (y :: suf) s x' s' := by
      intro x1 s1 H1 hg hc e
      obtain ⟨x', s', e2, hs⟩ := ihn x1 s1 H1
      refine ⟨x', s', e.trans e2, hs.hv, fun v v0 v1 q => hs.grow v v0 v1 (hg v v0 v1 q), fun r hm q => ?_⟩
      rcases List.mem_cons.1 hm with z | z
      · rw [z] at q ⊢
        have := hc q
        exact ⟨hs.grow _ a0 a1 this.1, hs.grow _ b0 b1 this.2⟩
      · have hz := hr r hm
        exact hs.cl r z (q.imp (hg _ hz.a0 hz.a1) (hg _ hz.b0 hz.b1))
    have hbd0 := H.bd y.f0 a0 a1
    have hbd1 := H.bd y.f1 b0 b1
    have ss1 := fun v v0 (v1 : v < n) => rdOf_set s y.f1 v true b0 v0 (show v < (s.length : Int) by omega)
    have ss0 := fun v v0 (v1 : v < n) => rdOf_set s y.f0 v true a0 v0 (show v < (s.length : Int) by omega)
    have ef : k + 2 * (y :: suf).length + 1 = (k + 2 * suf.length + 1) + 1 + 1 := by rw [List.length_cons]; omega
    have en := next_midR pre y (by omega)
    have ea := app_midR pre suf y
    by_cases c0 : rdOf false s y.f0 = true
    · by_cases c1 : rdOf false s y.f1 = true
      · refine fin x s H (fun _ _ _ e => e) (fun _ => ⟨c0, c1⟩) ?_
        rw [ef, impl_TreeHeights.l1, if_pos (len_midR _ _ _), if_pos (by omega), if_pos (len_midR _ _ _), rd_midR, if_pos a0, if_pos (by omega), if_pos c0, if_pos b0, if_pos (by omega), c1, impl_TreeHeights.j2, if_neg (by simp), if_pos b0, if_pos (by omega), if_pos c1, if_pos a0, if_pos (by omega), if_pos c0, en, ← ea]
      · have c1' : rdOf false s y.f1 = false := Bool.eq_false_iff.2 c1
        have v0 := H.val y.f0 a0 a1 c0
        have ew : wrap64 (rd x y.f0 + y.f2) = rd x y.f0 + y.f2 := nw64 (by omega) (by omega)
        refine fin (x.set y.f1.toNat (rd x y.f0 + y.f2)) (s.set y.f1.toNat true) (hset hn H (a := y.f0) ⟨b0, b1⟩ c1' (by omega) (by omega) ⟨a0, a1⟩) (fun v v0 v1 e => by rw [ss1 v v0 v1]; split; rfl; exact e) (fun _ => ⟨by rw [ss1 _ a0 a1]; split; rfl; exact c0, by rw [ss1 _ b0 b1, if_pos rfl]⟩) ?_
        rw [ef, impl_TreeHeights.l1, if_pos (len_midR _ _ _), if_pos (by omega), if_pos (len_midR _ _ _), rd_midR, if_pos a0, if_pos (by omega), if_pos c0, if_pos b0, if_pos (by omega), c1', impl_TreeHeights.j2, if_pos (by simp), if_pos a0, if_pos (by omega), if_pos b0, if_pos (by omega), if_pos (by omega), ew, en, ← ea]
    · have c0' : rdOf false s y.f0 = false := Bool.eq_false_iff.2 c0
      by_cases c1 : rdOf false s y.f1 = true
      · have v1 := H.val y.f1 b0 b1 c1
        have ew : wrap64 (rd x y.f1 - y.f2) = rd x y.f1 - y.f2 := nw64 (by omega) (by omega)
        refine fin (x.set y.f0.toNat (rd x y.f1 - y.f2)) (s.set y.f0.toNat true) (hset hn H (a := y.f1) ⟨a0, a1⟩ c0' (by omega) (by omega) ⟨b0, b1⟩) (fun v v0 v1 e => by rw [ss0 v v0 v1]; split; rfl; exact e) (fun _ => ⟨by rw [ss0 _ a0 a1, if_pos rfl], by rw [ss0 _ b0 b1]; split; rfl; exact c1⟩) ?_
        rw [ef, impl_TreeHeights.l1, if_pos (len_midR _ _ _), if_pos (by omega), if_pos (len_midR _ _ _), rd_midR, if_pos a0, if_pos (by omega), if_neg c0, impl_TreeHeights.j2, if_neg (by simp), if_pos b0, if_pos (by omega), if_pos c1, if_pos a0, if_pos (by omega), if_neg c0, if_pos (by omega), if_pos (by omega), ew, en, ← ea]
      · refine fin x s H (fun _ _ _ e => e) (fun q => by rcases q with q | q; exact absurd q c0; exact absurd q c1) ?_
        rw [ef, impl_TreeHeights.l1, if_pos (len_midR _ _ _), if_pos (by omega), if_pos (len_midR _ _ _), rd_midR, if_pos a0, if_pos (by omega), if_neg c0, impl_TreeHeights.j2, if_neg (by simp), if_pos b0, if_pos (by omega), if_neg c1, en, ← ea]
theorem hround {n : Int} {h : Int → Int} {p : List Run} (hv : VL n p) (hw : ∀ v, 0 ≤ v → v < n → Lk p 0 v) {s s' : List Bool} {x' : List Int} (hls : (s.length : Int) = n) (hs0 : rdOf false s 0 = true) (H : Hs n h p s x' s') :
    (∀ v, 0 ≤ v → v < n → rdOf false s' v = true) ∨ s'.count false < s.count false := by
  have ls' := H.hv.ls
  by_cases q : ∀ v, 0 ≤ v → v < n → rdOf false s' v = true → rdOf false s v = true
  · left
    intro v v0 v1
    have hc : ∀ r ∈ p, (rdOf false s r.f0 = true) = (rdOf false s r.f1 = true) := fun r hr => by
      have hb := hv r hr
      exact propext ⟨fun e => q _ hb.2.2.1 hb.2.2.2 (H.cl r hr (.inl e)).2, fun e => q _ hb.1 hb.2.1 (H.cl r hr (.inr e)).1⟩
    exact H.grow v v0 v1 (((hw v v0 v1).const (fun u => rdOf false s u = true) hc).mp hs0)
  · right
    have : ∃ v, 0 ≤ v ∧ v < n ∧ rdOf false s' v = true ∧ rdOf false s v ≠ true := by
      refine Classical.byContradiction fun w => q fun v h0 h1 e => Classical.byContradiction fun e' => w ⟨v, h0, h1, e, e'⟩
    obtain ⟨v, v0, v1, e, e'⟩ := this
    obtain ⟨j, rfl⟩ : ∃ j : Nat, v = j := ⟨v.toNat, by omega⟩
    refine countb_lt s s' (by omega) (fun i h1 h2 ei => ?_) j (by omega) (by omega) ?_ ?_
    · have := H.grow i (by omega) (by omega) (by rw [rdOf_eq s i h1]; exact ei)
      rwa [rdOf_eq s' i h2] at this
    · rw [rdOf_eq s j (by omega)] at e'; exact Bool.eq_false_iff.2 e'
    · rwa [rdOf_eq s' j (by omega)] at e
theorem hl0' {n : Int} (hn : 1 ≤ n ∧ n ≤ 6) {h : Int → Int} {l : List Run} {t : List Int} (ht : t.length ≤ 12) (hx : ∀ k ∈ t, 0 ≤ k ∧ k < (l.length : Int)) (hok : ∀ r ∈ pk l t, Ok n h r) (hw : ∀ v, 0 ≤ v → v < n → Lk (pk l t) 0 v) {X : Nat} (hX : X ≤ 12) (c : Nat) : ∀ (i : Nat) (x : List Int) (s : List Bool) (K : Nat), X - i = c → i ≤ X → 60 + 26 * c < K → Hv n h x s →
    ∃ x' s', impl_TreeHeights.l0 K l t x s (X : Int) (i : Int) = some (x', true) ∧ Hv n h x' s' ∧ ((∀ v, 0 ≤ v → v < n → rdOf false s' v = true) ∨ s'.count false + c ≤ s.count false) := by
  have hlp : (pk l t).length = t.length := by simp [pk]
  induction c with
  | zero =>
    intro i x s K hc hi hK H
    obtain ⟨K, rfl⟩ : ∃ m, K = m + 1 := ⟨K - 1, by omega⟩
    refine ⟨x, s, ?_, H, .inr (by omega)⟩
    rw [impl_TreeHeights.l0, if_neg (by omega)]
  | succ c ih =>
    intro i x s K hc hi hK H
    obtain ⟨K, rfl⟩ : ∃ m, K = m + 2 * (pk l t).length + 1 + 1 := ⟨K - 2 * (pk l t).length - 2, by omega⟩
    obtain ⟨x1, s1, e1, H1⟩ := hl1 hn.2 (h := h) (l := l) (t := t) (X := (X : Int)) (I := (i : Int)) (pk l t) [] x s K (by rw [hlp]; simp; omega) hok H
    simp only [List.nil_append, List.length_nil] at e1
    rw [show ((0 : Nat) : Int) = 0 from rfl] at e1
    have hi2 : wrap64 ((i : Int) + 1) = ((i + 1 : Nat) : Int) := by rw [nw64 (by omega) (by omega)]; omega
    have hK2 : 60 + 26 * c < K := by omega
    obtain ⟨x2, s2, e2, H2, hp2⟩ := ih (i + 1) x1 s1 K (by omega) (by omega) hK2 H1.hv
    refine ⟨x2, s2, ?_, H2, ?_⟩
    · rw [impl_TreeHeights.l0, if_pos (by omega), pick_eq _ (by omega) (by omega) hx]
      simp only [Option.bind_some]
      rw [e1, hi2]
      exact e2
    · rcases hround (fun r hr => ⟨(hok r hr).a0, (hok r hr).a1, (hok r hr).b0, (hok r hr).b1⟩) hw H.ls H.s0 H1 with q | q
      · rcases hp2 with z | z
        · exact .inl z
        · -- all were known already
          left
          have hz : s1.count false = 0 := by
            rw [List.count_eq_zero]
            intro hm
            obtain ⟨j, hj, e⟩ := List.getElem_of_mem hm
            have := q j (by omega) (by have := H1.hv.ls; omega)
            rw [rdOf_eq s1 j hj, e] at this
            cases this
          have hz2 : s2.count false = 0 := by omega
          intro v v0 v1
          obtain ⟨j, rfl⟩ : ∃ j : Nat, v = j := ⟨v.toNat, by omega⟩
          have hj : j < s2.length := by have := H2.ls; omega
          rw [rdOf_eq s2 j hj]
          rw [List.count_eq_zero] at hz2
          cases hh : s2[j] with
          | true => rfl
          | false => exact absurd (hh ▸ List.getElem_mem hj) hz2
      · rcases hp2 with z | z
        · exact .inl z
        · exact .inr (by omega)
theorem TreeIs_l0 {n : Int} {l : List Run} {t : List Int} (hw : wholeB n (pk l t) = true) (ht : t.length ≤ 12) (hx : ∀ x ∈ t, 0 ≤ x ∧ x < (l.length : Int)) (suf : List Int) : ∀ (pre : List Int) (y : Int) (k : Nat), pre ++ suf = t → suf.length + 70 < k → (∀ x ∈ suf, y < x) → suf.Pairwise (· < ·) →
    impl_TreeIs.l0 k n l t y (pre ++ suf) ((pre ++ suf).length : Int) (pre.length : Int) = some true := by
  induction suf with
  | nil =>
    intro pre y k he hk _ _
    obtain ⟨k, rfl⟩ : ∃ m, k = m + 1 := ⟨k - 1, by omega⟩
    rw [impl_TreeIs.l0, if_neg (by simp), pick_eq k (by omega) (by omega) hx]
    simp only [Option.bind_some]
    rw [NetWhole_eq k _ _ (by omega), hw]
    rfl
  | cons z suf ih =>
    intro pre y k he hk hy hp
    simp only [List.length_cons] at hk
    obtain ⟨k, rfl⟩ : ∃ m, k = m + 1 := ⟨k - 1, by omega⟩
    have hz := hx z (by rw [← he]; simp)
    have hyz := hy z (by simp)
    have hl : pre.length + (suf.length + 1) = t.length := by rw [← he]; simp
    rw [impl_TreeIs.l0, if_pos (len_midI _ _ _), if_pos (by omega), if_pos (len_midI _ _ _), rd_midI, if_neg (by omega), if_neg (by omega), next_midI pre z (by omega), app_midI pre suf z]
    rw [List.pairwise_cons] at hp
    exact ih (pre ++ [z]) z k (by rw [← he]; simp) (by omega) (fun x hm => hp.1 x hm) hp.2
theorem ft_whole {n : Int} {l : List Run} (hw : wholeB n l = true) : wholeB n (pk l (ftree n l l.length)) = true := by
  have hv := (wholeB_iff.1 hw).1
  have hn := nvB_n hv
  refine wholeB_iff.2 ⟨pk_valid hv (by have := ft_len n l l.length; omega) (fun x hm => ft_lt n l l.length x hm), fun v v0 v1 => ?_⟩
  refine ft_lk (by omega) (nvB_VL hv) l.length (Nat.le_refl _) _ _ ?_
  rw [List.take_length]
  exact (wholeB_iff.1 hw).2 v v0 v1
theorem ft_size {n : Int} {l : List Run} (hw : wholeB n l = true) : ((ftree n l l.length).length : Int) = n - 1 := by
  have hv := (wholeB_iff.1 hw).1
  have hn := nvB_n hv
  have h1 := ft_parts (by omega) (nvB_VL hv) l.length (Nat.le_refl _)
  have h2 := parts_whole (by omega) (ft_VL (m := l.length) (nvB_VL hv) (Nat.le_refl _)) (wholeB_iff.1 (ft_whole hw)).2
  omega
theorem TreeIs_eq (k : Nat) {n : Int} {l : List Run} (hk : 120 < k) (hw : wholeB n l = true) : impl_TreeIs.f k n l (ftree n l l.length) = some true := by
  have hv := (wholeB_iff.1 hw).1
  have hn := nvB_n hv
  have hs := ft_size hw
  have hlt := ft_lt n l l.length
  have htl := ft_len n l l.length
  obtain ⟨k, rfl⟩ : ∃ m, k = m + 1 := ⟨k - 1, by omega⟩
  unfold impl_TreeIs.f
  rw [impl_NetValid_eq (k + 1) n l (by omega), hv]
  simp only [Option.bind_some]
  rw [if_pos trivial, nw64 (x := n - 1) (by omega) (by omega), hs, impl_TreeIs.j0, if_neg (by simp)]
  have := TreeIs_l0 (ft_whole hw) (by omega) (fun x hm => hlt x hm) (ftree n l l.length) [] (-1) k (by simp) (by omega) (fun x hm => by have := hlt x hm; omega) (ft_asc n l l.length)
  simp only [List.nil_append, List.length_nil] at this
  rw [show ((0 : Nat) : Int) = 0 from rfl] at this
  rw [hs] at this
  rw [hs]
  exact this
/-- The program's heights of the first tree of a whole net fit the tree. -/
theorem TreeHeights_eq (k : Nat) {n : Int} {l : List Run} (hk : 1000 < k) (hw : wholeB n l = true) {h : Int → Int} (hp : pot h (pk l (ftree n l l.length))) :
    ∃ x, impl_TreeHeights.f k n l (ftree n l l.length) = some (x, true) ∧ (x.length : Int) = n ∧ hIn x ∧ ∀ v, 0 ≤ v → v < n → rd x v = h v - h 0 := by
  have hv := (wholeB_iff.1 hw).1
  have hn := nvB_n hv
  have hs := ft_size hw
  have hlt := ft_lt n l l.length
  have hVL := ft_VL (m := l.length) (nvB_VL hv) (Nat.le_refl _)
  have hsub := ft_sub (n := n) (l := l) (Nat.le_refl l.length)
  have hok : ∀ r ∈ pk l (ftree n l l.length), Ok n h r := fun r hr => by
    have := nvB_all hv (hsub r hr)
    exact ⟨this.1.1, this.1.2.1, this.1.2.2.1, this.1.2.2.2.1, this.2.1.1, this.2.1.2, hp r hr⟩
  have hl0 : (List.replicate n.toNat false).length = n.toNat := List.length_replicate
  have hr0 : ∀ v : Int, rdOf false (List.replicate n.toNat false) v = false := fun v => by unfold rdOf; rw [List.getD_eq_getElem?_getD, List.getElem?_replicate]; split <;> rfl
  have hc := count_rdOf (List.replicate n.toNat false) 0 (by omega) (by omega) (hr0 0)
  rw [List.count_replicate_self] at hc
  have ss := fun v v0 (v1 : v < n) => rdOf_set (List.replicate n.toNat false) 0 v true (by omega) v0 (show v < ((List.replicate n.toNat false).length : Int) by omega)
  have H : Hv n h (List.replicate n.toNat 0) ((List.replicate n.toNat false).set (0 : Int).toNat true) := by
    have hz : ∀ v : Int, rd (List.replicate n.toNat 0) v = 0 := fun v => by unfold rd; rw [List.getD_eq_getElem?_getD, List.getElem?_replicate]; split <;> rfl
    refine ⟨by rw [List.length_replicate]; omega, by rw [List.length_set, hl0]; omega, ?_, fun v v0 v1 e => ?_, fun v v0 v1 => ?_⟩
    · rw [ss 0 (by omega) (by omega), if_pos rfl]
    · rw [ss v v0 v1] at e
      split at e
      · next q => rw [q, hz]; omega
      · rw [hr0] at e; cases e
    · rw [hz]; omega
  obtain ⟨x, s, e, Hx, hq⟩ := hl0' (n := n) ⟨by omega, hn.2.1⟩ (h := h) (l := l) (t := ftree n l l.length) (by omega) (fun x hm => hlt x hm) hok (wholeB_iff.1 (ft_whole hw)).2 (X := (ftree n l l.length).length) (by omega) (ftree n l l.length).length 0 _ _ k (by omega) (by omega) (by omega) H
  have hall : ∀ v, 0 ≤ v → v < n → rdOf false s v = true := by
    rcases hq with q | q
    · exact q
    · intro v v0 v1
      have hz : s.count false = 0 := by omega
      obtain ⟨j, rfl⟩ : ∃ j : Nat, v = j := ⟨v.toNat, by omega⟩
      have hj : j < s.length := by have := Hx.ls; omega
      rw [rdOf_eq s j hj]
      rw [List.count_eq_zero] at hz
      cases hh : s[j] with
      | true => rfl
      | false => exact absurd (hh ▸ List.getElem_mem hj) hz
  refine ⟨x, ?_, Hx.lx, fun y hy => ?_, fun v v0 v1 => Hx.val v v0 v1 (hall v v0 v1)⟩
  · rw [show ((0 : Nat) : Int) = 0 from rfl] at e
    unfold impl_TreeHeights.f
    rw [TreeIs_eq k (by omega) hw]
    simp only [Option.bind_some]
    rw [if_pos trivial, if_pos (by omega), if_pos (by omega), if_pos (by omega), if_pos (by rw [hl0]; omega)]
    exact e
  · obtain ⟨j, hj, rfl⟩ := List.getElem_of_mem hy
    have := Hx.bd j (by omega) (by have := Hx.lx; omega)
    rw [rd_eq x j hj] at this
    omega
end Go.Proofs.Ytmcfhmflncghiaa.Pure
namespace Go.Proofs.Ytmcfhmflncghiaa.Pure
open Go.RowKit Go.Proofs.Ytmcfhmflncghiaa.Q Go.Proofs.YtmcfhmflncghiaaW.PrintWords Go.Proofs.YtmcfhmflncghiaaW.PrintLast Go.Proofs.YtmcfhmflncghiaaW.PrintMore

theorem rw64 {x : Int} (h0 : -9223372036854775808 ≤ x) (h1 : x ≤ 9223372036854775807) : wrap64 x = x := by
  unfold wrap64; omega

theorem xor_nonneg (x y : Int) (hx : 0 ≤ x) (hx' : x < 2 ^ 62) (hy : 0 ≤ y) (hy' : y < 2 ^ 62) : 0 ≤ Go.bits .xor .i64 x y := by
  obtain ⟨a, rfl⟩ : ∃ a : Nat, x = a := ⟨x.toNat, by omega⟩
  obtain ⟨b, rfl⟩ : ∃ b : Nat, y = b := ⟨y.toNat, by omega⟩
  have ha : a < 2 ^ 62 := by omega
  have hb : b < 2 ^ 62 := by omega
  have ha' : a % 2 ^ 64 = a := Nat.mod_eq_of_lt (by omega)
  have hb' : b % 2 ^ 64 = b := Nat.mod_eq_of_lt (by omega)
  have h := Nat.xor_lt_two_pow ha hb
  have e : Go.bits .xor .i64 (a : Int) (b : Int) = ((a ^^^ b : Nat) : Int) := by
    have e0 : Go.bits .xor .i64 (a : Int) (b : Int) = IntKind.i64.wrap ((BitVec.ofInt 64 (a : Int) ^^^ BitVec.ofInt 64 (b : Int)).toNat : Int) := rfl
    rw [e0, BitVec.ofInt_natCast, BitVec.ofInt_natCast, BitVec.toNat_xor, BitVec.toNat_ofNat, BitVec.toNat_ofNat, ha', hb', IntKind.wrap_i64]
    omega
  rw [e]
  exact Int.natCast_nonneg _

/-- All numbers of a list are bytes. -/
def Bts (b : List Int) : Prop := b.length ≤ 2000 ∧ ∀ x ∈ b, 0 ≤ x ∧ x ≤ 255
theorem Bts.at_ {b : List Int} (h : Bts b) (i : Int) : 0 ≤ rd b i ∧ rd b i ≤ 255 := by
  unfold rd
  by_cases hi : i.toNat < b.length
  · rw [List.getD_eq_getElem?_getD, List.getElem?_eq_getElem hi]; exact h.2 _ (List.getElem_mem hi)
  · rw [List.getD_eq_getElem?_getD, List.getElem?_eq_none (by omega)]; simp

theorem pick_ok (k : Nat) {b : List Int} {p n : Int} (hb : Bts b) (hp : 0 ≤ p ∧ p ≤ 1000000) (hn : 1 ≤ n) :
    ∃ v, spec_l6Rd_pick.f (k + 1) b p n = some (v, p + 1) ∧ 0 ≤ v ∧ v < n := by
  unfold spec_l6Rd_pick.f
  rw [if_neg (by omega), rw64 (x := p + 1) (by omega) (by omega)]
  simp only [spec_l6Rd_pick.j0]
  by_cases h0 : (b.length : Int) = 0
  · exact ⟨0, by rw [if_pos (by simpa using h0)], by omega, by omega⟩
  · rw [if_neg (by simpa using h0), show p + 1 - 1 = p by omega, rw64 (x := p) (by omega) (by omega)]
    have hlen : 0 < (b.length : Int) := by omega
    have hL := hb.1
    by_cases h1 : p < (b.length : Int)
    · rw [if_pos h1, if_pos hp.1, if_neg (by omega)]
      have hr := hb.at_ p
      rw [rw64 (by omega) (by omega), Int.tmod_eq_emod_of_nonneg hr.1]
      exact ⟨_, rfl, Int.emod_nonneg _ (by omega), Int.emod_lt_of_pos _ (by omega)⟩
    · rw [if_neg h1, if_neg h0]
      have q0 : 0 ≤ Int.tmod p (b.length : Int) := by rw [Int.tmod_eq_emod_of_nonneg hp.1]; exact Int.emod_nonneg _ (by omega)
      have q1 : Int.tmod p (b.length : Int) < (b.length : Int) := by rw [Int.tmod_eq_emod_of_nonneg hp.1]; exact Int.emod_lt_of_pos _ hlen
      rw [rw64 (x := p * 7) (by omega) (by omega), rw64 (x := p * 7 + 3) (by omega) (by omega)]
      have q2 : 0 ≤ Int.tmod (p * 7 + 3) (b.length : Int) := by rw [Int.tmod_eq_emod_of_nonneg (by omega)]; exact Int.emod_nonneg _ (by omega)
      have q3 : Int.tmod (p * 7 + 3) (b.length : Int) < (b.length : Int) := by rw [Int.tmod_eq_emod_of_nonneg (by omega)]; exact Int.emod_lt_of_pos _ hlen
      rw [if_pos q0, if_pos q1, if_pos q2, if_pos q3, if_neg (by omega)]
      have hr := hb.at_ (Int.tmod p (b.length : Int))
      have hs := hb.at_ (Int.tmod (p * 7 + 3) (b.length : Int))
      have hd : 0 ≤ Int.tdiv p (b.length : Int) ∧ Int.tdiv p (b.length : Int) ≤ p := by
        rw [Int.tdiv_eq_ediv_of_nonneg hp.1]
        exact ⟨Int.ediv_nonneg hp.1 (by omega), Int.ediv_le_self _ hp.1⟩
      generalize rd b (Int.tmod p (b.length : Int)) = u at *
      generalize rd b (Int.tmod (p * 7 + 3) (b.length : Int)) = v at *
      generalize Int.tdiv p (b.length : Int) = d at *
      rw [rw64 (x := u) (by omega) (by omega), rw64 (x := v) (by omega) (by omega), rw64 (x := u * 131) (by omega) (by omega), rw64 (x := v * 1117) (by omega) (by omega),
        rw64 (x := u * 131 + v * 1117) (by omega) (by omega), rw64 (x := p * 29) (by omega) (by omega), rw64 (x := u * 131 + v * 1117 + p * 29) (by omega) (by omega),
        rw64 (x := d) (by omega) (by omega), rw64 (x := d * 53) (by omega) (by omega), rw64 (x := u * 131 + v * 1117 + p * 29 + d * 53) (by omega) (by omega)]
      have hx : 0 ≤ u * 131 + v * 1117 + p * 29 + d * 53 := by omega
      have hx' : u * 131 + v * 1117 + p * 29 + d * 53 < 2 ^ 60 := by omega
      generalize u * 131 + v * 1117 + p * 29 + d * 53 = x at *
      have hy : 0 ≤ Int.tdiv x 64 ∧ Int.tdiv x 64 < 2 ^ 60 := by rw [Int.tdiv_eq_ediv_of_nonneg hx]; omega
      rw [rw64 (x := Int.tdiv x 64) (by omega) (by omega)]
      have hz := xor_nonneg x (Int.tdiv x 64) hx (by omega) hy.1 (by omega)
      rw [Int.tmod_eq_emod_of_nonneg hz]
      exact ⟨_, rfl, Int.emod_nonneg _ (by omega), Int.emod_lt_of_pos _ (by omega)⟩

theorem open_ok {l : List Int} (hl : ∀ x ∈ l, (Lit.int .u8 x).wf = true) : ∃ b, spec_l6Open.f l = some (b, 0) ∧ Bts b := by
  have hb : ∀ x ∈ l, 0 ≤ x ∧ x ≤ 255 := fun x hx => by
    have := hl x hx
    simp [Lit.wf, IntKind.min, IntKind.max, IntKind.signed, IntKind.bits] at this
    omega
  unfold spec_l6Open.f
  by_cases h : (l.length : Int) > 2000
  · rw [if_pos h, if_pos (by omega)]
    exact ⟨_, rfl, by rw [List.length_take]; omega, fun x hx => hb x (List.mem_of_mem_take hx)⟩
  · rw [if_neg h]
    exact ⟨_, rfl, by omega, hb⟩
end Go.Proofs.Ytmcfhmflncghiaa.Pure
namespace Go.Proofs.Ytmcfhmflncghiaa.Pure
open Go.RowKit Go.Proofs.Ytmcfhmflncghiaa.Q Go.Proofs.YtmcfhmflncghiaaW.PrintWords Go.Proofs.YtmcfhmflncghiaaW.PrintLast Go.Proofs.YtmcfhmflncghiaaW.PrintMore

theorem l91Net_j3 (k : Nat) {b : List Int} (hb : Bts b) {n p : Int} {x : List Run} (hp : 0 ≤ p ∧ p ≤ 1000) : ∃ x' q, spec_l91Net.j3 (k + 2) n x b p = some (n, x', q) ∧ p ≤ q ∧ q ≤ p + 2 ∧ x'.length = x.length := by
  rw [spec_l91Net.j3]
  by_cases h : (x.length : Int) > 0
  · rw [if_pos h]
    obtain ⟨v1, e1, v10, v11⟩ := pick_ok k hb (p := p) (n := 50) (by omega) (by omega)
    obtain ⟨v2, e2, v20, v21⟩ := pick_ok k hb (p := p + 1) (n := 2) (by omega) (by omega)
    simp only [e1, e2, Option.bind_some]
    by_cases c0 : v1 = 0
    · rw [if_pos c0, if_pos (by omega)]; exact ⟨_, _, rfl, by omega, by omega, by simp⟩
    · rw [if_neg c0]
      by_cases c1 : v1 = 1
      · rw [if_pos c1, if_pos (by omega), if_pos (by simp; omega), if_pos (by omega)]; exact ⟨_, _, rfl, by omega, by omega, by simp⟩
      · rw [if_neg c1]
        by_cases c2 : v1 = 2
        · rw [if_pos c2, if_pos (by omega)]; exact ⟨_, _, rfl, by omega, by omega, by simp⟩
        · rw [if_neg c2]
          by_cases c3 : v1 = 3
          · rw [if_pos c3, if_pos (by omega)]; exact ⟨_, _, rfl, by omega, by omega, by simp⟩
          · rw [if_neg c3]; exact ⟨_, _, rfl, by omega, by omega, rfl⟩
  · rw [if_neg h]; exact ⟨_, _, rfl, by omega, by omega, rfl⟩
theorem l91Net_l2 {b : List Int} (hb : Bts b) {n : Int} (m : Nat) : ∀ (x : List Run) (i p : Int) (k : Nat), (x.length : Int) - i = m → 0 ≤ i → x.length ≤ 20 → 0 ≤ p → p + m ≤ 900 → m + 3 < k →
    ∃ x' q, spec_l91Net.l2 k n x i b p = some (n, x', q) ∧ p ≤ q ∧ q ≤ p + m + 4 ∧ x'.length = x.length := by
  induction m with
  | zero =>
    intro x i p k hm hi hx hp hp' hk
    obtain ⟨k, rfl⟩ : ∃ j, k = j + 3 := ⟨k - 3, by omega⟩
    rw [spec_l91Net.l2, if_neg (by omega)]
    by_cases h : (x.length : Int) > 1
    · rw [if_pos h]
      obtain ⟨v1, e1, v10, v11⟩ := pick_ok (k + 1) hb (p := p) (n := x.length) (by omega) (by omega)
      simp only [e1, Option.bind_some]
      rw [if_pos (by omega), if_pos v10, if_pos v11]
      obtain ⟨x', q, e, q0, q1, hl⟩ := l91Net_j3 k hb (n := n) (p := p + 1) (x := ((x.set (0 : Int).toNat (⟨(rd_T32 x v1).f0, (rd_T32 x v1).f1, (rd_T32 x v1).f2, (rd_T32 x v1).f3⟩ : Run)).set (v1 : Int).toNat (⟨(rd_T32 x 0).f0, (rd_T32 x 0).f1, (rd_T32 x 0).f2, (rd_T32 x 0).f3⟩ : Run))) (by omega)
      exact ⟨x', q, e, by omega, by omega, by rw [hl]; simp⟩
    · rw [if_neg h]
      obtain ⟨x', q, e, q0, q1, hl⟩ := l91Net_j3 k hb (n := n) (p := p) (x := x) (by omega)
      exact ⟨x', q, e, by omega, by omega, hl⟩
  | succ m ih =>
    intro x i p k hm hi hx hp hp' hk
    obtain ⟨k, rfl⟩ : ∃ j, k = j + 2 := ⟨k - 2, by omega⟩
    rw [spec_l91Net.l2, if_pos (by omega)]
    obtain ⟨v1, e1, v10, v11⟩ := pick_ok k hb (p := p) (n := 3) (by omega) (by omega)
    simp only [e1, Option.bind_some]
    rw [rw64 (x := i + 1) (by omega) (by omega)]
    by_cases c : v1 = 0
    · rw [if_pos c, if_pos hi]
      obtain ⟨x', q, e, q0, q1, hl⟩ := ih (x.set (i : Int).toNat (⟨(rd_T32 x i).f1, (rd_T32 x i).f0, wrap64 (-((rd_T32 x i).f2)), (rd_T32 x i).f3⟩ : Run)) (i + 1) (p + 1) (k + 1) (by simp; omega) (by omega) (by simp; omega) (by omega) (by omega) (by omega)
      exact ⟨x', q, e, by omega, by omega, by rw [hl]; simp⟩
    · rw [if_neg c]
      obtain ⟨x', q, e, q0, q1, hl⟩ := ih x (i + 1) (p + 1) (k + 1) (by omega) (by omega) (by omega) (by omega) (by omega) (by omega)
      exact ⟨x', q, e, by omega, by omega, hl⟩
theorem l91Net_l1 {b : List Int} (hb : Bts b) {n : Int} (hn : 2 ≤ n ∧ n ≤ 6) (m : Nat) : ∀ (x : List Run) (c i p : Int) (k : Nat), c - i = m → 0 ≤ i → c ≤ 4 → x.length + m ≤ 20 → 0 ≤ p → p + 4 * m ≤ 400 → m + 40 < k →
    ∃ x' q, spec_l91Net.l1 k n x c i b p = some (n, x', q) ∧ p ≤ q ∧ q ≤ p + 4 * m + 30 ∧ x'.length ≤ 20 := by
  induction m with
  | zero =>
    intro x c i p k hm hi hc hx hp hp' hk
    obtain ⟨k, rfl⟩ : ∃ j, k = j + 1 := ⟨k - 1, by omega⟩
    rw [spec_l91Net.l1, if_neg (by omega)]
    obtain ⟨x', q, e, q0, q1, hl⟩ := l91Net_l2 hb (n := n) x.length x 0 p k (by omega) (by omega) (by omega) (by omega) (by omega) (by omega)
    exact ⟨x', q, e, by omega, by omega, by omega⟩
  | succ m ih =>
    intro x c i p k hm hi hc hx hp hp' hk
    obtain ⟨k, rfl⟩ : ∃ j, k = j + 2 := ⟨k - 2, by omega⟩
    rw [spec_l91Net.l1, if_pos (by omega), rw64 (x := n - 1) (by omega) (by omega)]
    obtain ⟨v1, e1, v10, v11⟩ := pick_ok k hb (p := p) (n := n) (by omega) (by omega)
    obtain ⟨v2, e2, v20, v21⟩ := pick_ok k hb (p := p + 1) (n := n - 1) (by omega) (by omega)
    obtain ⟨v3, e3, v30, v31⟩ := pick_ok k hb (p := p + 1 + 1) (n := 61) (by omega) (by omega)
    obtain ⟨v4, e4, v40, v41⟩ := pick_ok k hb (p := p + 1 + 1 + 1) (n := 4) (by omega) (by omega)
    simp only [e1, e2, e3, e4, Option.bind_some]
    rw [if_neg (by omega), if_pos (by omega), rw64 (x := i + 1) (by omega) (by omega)]
    obtain ⟨x', q, e, q0, q1, hl⟩ := ih (x ++ [(⟨v1, Int.tmod (wrap64 ((wrap64 (v1 + 1)) + v2)) n, wrap64 (v3 - 30), wrap64 (1 + v4)⟩ : Run)]) c (i + 1) (p + 1 + 1 + 1 + 1) (k + 1) (by omega) (by omega) hc (by simp; omega) (by omega) (by omega) (by omega)
    exact ⟨x', q, e, by omega, by omega, hl⟩
theorem l91Net_l0 {b : List Int} (hb : Bts b) {n : Int} (hn : 2 ≤ n ∧ n ≤ 6) (m : Nat) : ∀ (x : List Run) (i p : Int) (k : Nat), n - i = m → 1 ≤ i → x.length + m ≤ 10 → 0 ≤ p → p + 4 * m ≤ 300 → m + 60 < k →
    ∃ x' q, spec_l91Net.l0 k n x i b p = some (n, x', q) ∧ p ≤ q ∧ q ≤ p + 4 * m + 60 ∧ x'.length ≤ 20 := by
  induction m with
  | zero =>
    intro x i p k hm hi hx hp hp' hk
    obtain ⟨k, rfl⟩ : ∃ j, k = j + 2 := ⟨k - 2, by omega⟩
    rw [spec_l91Net.l0, if_neg (by omega)]
    obtain ⟨v1, e1, v10, v11⟩ := pick_ok k hb (p := p) (n := 4) (by omega) (by omega)
    simp only [e1, Option.bind_some]
    obtain ⟨x', q, e, q0, q1, hl⟩ := l91Net_l1 hb hn v1.toNat x v1 0 (p + 1) (k + 1) (by omega) (by omega) (by omega) (by omega) (by omega) (by omega) (by omega)
    exact ⟨x', q, e, by omega, by omega, by omega⟩
  | succ m ih =>
    intro x i p k hm hi hx hp hp' hk
    obtain ⟨k, rfl⟩ : ∃ j, k = j + 2 := ⟨k - 2, by omega⟩
    rw [spec_l91Net.l0, if_pos (by omega), rw64 (x := i + 1) (by omega) (by omega)]
    obtain ⟨v1, e1, v10, v11⟩ := pick_ok k hb (p := p) (n := 12) (by omega) (by omega)
    obtain ⟨v2, e2, v20, v21⟩ := pick_ok k hb (p := p + 1) (n := i) (by omega) (by omega)
    obtain ⟨v3, e3, v30, v31⟩ := pick_ok k hb (p := p + 1 + 1) (n := 61) (by omega) (by omega)
    obtain ⟨v4, e4, v40, v41⟩ := pick_ok k hb (p := p + 1 + 1 + 1) (n := 4) (by omega) (by omega)
    simp only [e1, e2, e3, e4, Option.bind_some]
    by_cases c : v1 > 0
    · rw [if_pos c, if_pos (by omega)]
      obtain ⟨x', q, e, q0, q1, hl⟩ := ih (x ++ [(⟨v2, i, wrap64 (v3 - 30), wrap64 (1 + v4)⟩ : Run)]) (i + 1) (p + 1 + 1 + 1 + 1) (k + 1) (by omega) (by omega) (by simp; omega) (by omega) (by omega) (by omega)
      exact ⟨x', q, e, by omega, by omega, hl⟩
    · rw [if_neg c]
      obtain ⟨x', q, e, q0, q1, hl⟩ := ih x (i + 1) (p + 1) (k + 1) (by omega) (by omega) (by omega) (by omega) (by omega) (by omega)
      exact ⟨x', q, e, by omega, by omega, hl⟩
theorem l91Net_ok (k : Nat) {b : List Int} (hb : Bts b) {p m : Int} (hp : 0 ≤ p ∧ p ≤ 200) (hm : 2 ≤ m ∧ m ≤ 6) (hk : 100 < k) : ∃ n x q, spec_l91Net.f k b p m = some (n, x, q) ∧ p ≤ q ∧ q ≤ p + 100 ∧ x.length ≤ 20 ∧ 2 ≤ n ∧ n ≤ m := by
  obtain ⟨k, rfl⟩ : ∃ j, k = j + 1 := ⟨k - 1, by omega⟩
  unfold spec_l91Net.f
  rw [rw64 (x := m - 1) (by omega) (by omega)]
  obtain ⟨v1, e1, v10, v11⟩ := pick_ok k hb (p := p) (n := m - 1) (by omega) (by omega)
  simp only [e1, Option.bind_some]
  rw [rw64 (x := 2 + v1) (by omega) (by omega)]
  obtain ⟨x, q, e, q0, q1, hl⟩ := l91Net_l0 hb (n := 2 + v1) (by omega) (1 + v1).toNat [] 1 (p + 1) (k + 1) (by omega) (by omega) (by simp; omega) (by omega) (by omega) (by omega)
  exact ⟨_, x, q, e, by omega, by omega, hl, by omega, by omega⟩
end Go.Proofs.Ytmcfhmflncghiaa.Pure
namespace Go.Proofs.Ytmcfhmflncghiaa.Pure
open Go.RowKit Go.Proofs.Ytmcfhmflncghiaa.Q Go.Proofs.YtmcfhmflncghiaaW.PrintWords Go.Proofs.YtmcfhmflncghiaaW.PrintLast Go.Proofs.YtmcfhmflncghiaaW.PrintMore
theorem True_j2 (k : Nat) {b : List Int} (hb : Bts b) {n p : Int} {x : List Run} (hx : x.length ≤ 12) (hr : ∀ r ∈ x, -40 ≤ r.f2 ∧ r.f2 ≤ 40) (f : Bool) (hf : f = true → 0 < x.length) (hp : 0 ≤ p ∧ p ≤ 1000) :
    ∃ x' q, spec_l91True.j2 (k + 2) n x f b p = some (n, x', q) ∧ x'.length = x.length ∧ ∀ r ∈ x', -60 ≤ r.f2 ∧ r.f2 ≤ 60 := by
  rw [spec_l91True.j2]
  cases f with
  | false => exact ⟨x, p, by rw [if_neg (by simp)], rfl, fun r h => by have := hr r h; omega⟩
  | true =>
    have h0 := hf rfl
    obtain ⟨v1, e1, v10, v11⟩ := pick_ok k hb (p := p) (n := (x.length : Int)) (by omega) (by omega)
    obtain ⟨v2, e2, v20, v21⟩ := pick_ok k hb (p := p + 1) (n := 9) (by omega) (by omega)
    obtain ⟨i, rfl⟩ : ∃ i : Nat, v1 = i := ⟨v1.toNat, by omega⟩
    have hri : -40 ≤ (rd_T32 x (i : Int)).f2 ∧ (rd_T32 x (i : Int)).f2 ≤ 40 := by
      refine hr _ ?_
      unfold rd_T32
      have hi : i < x.length := by omega
      simp [hi]
    rw [if_pos rfl, e1]
    simp only [Option.bind_some]
    rw [if_pos v10, if_pos v11, e2]
    simp only [Option.bind_some]
    refine ⟨_, _, rfl, by simp, fun r h => ?_⟩
    rcases List.mem_or_eq_of_mem_set h with q | q
    · have := hr r q; omega
    · rw [q]
      show -60 ≤ wrap64 (wrap64 ((rd_T32 x (i : Int)).f2 + 1) + v2) ∧ wrap64 (wrap64 ((rd_T32 x (i : Int)).f2 + 1) + v2) ≤ 60
      rw [rw64 (x := (rd_T32 x (i : Int)).f2 + 1) (by omega) (by omega), rw64 (by omega) (by omega)]
      omega
theorem True_l1 {b : List Int} (hb : Bts b) {n : Int} {h : List Int} (hh : (h.length : Int) = n) (hbd : ∀ v : Int, 0 ≤ v → v < n → -20 ≤ rd h v ∧ rd h v ≤ 20) (suf : List Run) : ∀ (pre : List Run) (p : Int) (k : Nat), pre.length + suf.length ≤ 12 → (∀ r ∈ pre, -40 ≤ r.f2 ∧ r.f2 ≤ 40) → (∀ r ∈ suf, 0 ≤ r.f0 ∧ r.f0 < n ∧ 0 ≤ r.f1 ∧ r.f1 < n) → 0 ≤ p ∧ p ≤ 900 → suf.length + 5 < k →
    ∃ x' q, spec_l91True.l1 k n (pre ++ suf) h (pre.length : Int) b p = some (n, x', q) ∧ x'.length ≤ 12 ∧ ∀ r ∈ x', -60 ≤ r.f2 ∧ r.f2 ≤ 60 := by
  induction suf with
  | nil =>
    intro pre p k hl hg _ hp hk
    simp only [List.length_nil] at hl hk
    obtain ⟨k, rfl⟩ : ∃ j, k = j + 3 := ⟨k - 3, by omega⟩
    rw [List.append_nil, spec_l91True.l1, if_neg (by omega)]
    by_cases c : (pre.length : Int) > 0
    · obtain ⟨v1, e1, v10, v11⟩ := pick_ok (k + 1) hb (p := p) (n := 2) (by omega) (by omega)
      rw [if_pos c, e1]
      simp only [Option.bind_some]
      obtain ⟨x', q, e, h1, h2⟩ := True_j2 k hb (n := n) (p := p + 1) (x := pre) (by omega) hg (v1 == 0) (fun _ => by omega) (by omega)
      exact ⟨x', q, e, by omega, h2⟩
    · rw [if_neg c]
      obtain ⟨x', q, e, h1, h2⟩ := True_j2 k hb (n := n) (p := p) (x := pre) (by omega) hg false (by simp) (by omega)
      exact ⟨x', q, e, by omega, h2⟩
  | cons y suf ih =>
    intro pre p k hl hg hv hp hk
    simp only [List.length_cons] at hl hk
    obtain ⟨k, rfl⟩ : ∃ j, k = j + 1 := ⟨k - 1, by omega⟩
    have hy := hv y List.mem_cons_self
    have b0 := hbd y.f0 hy.1 hy.2.1
    have b1 := hbd y.f1 hy.2.2.1 hy.2.2.2
    rw [spec_l91True.l1, if_pos (len_midR _ _ _), if_pos (by omega), rd_midR, if_pos hy.2.2.1, if_pos (by omega), if_pos hy.1, if_pos (by omega), rw64 (x := rd h y.f1 - rd h y.f0) (by omega) (by omega), set_midR, next_midR pre y (by omega), app_midR pre suf]
    have := ih (pre ++ [⟨y.f0, y.f1, rd h y.f1 - rd h y.f0, y.f3⟩]) p k (by simp; omega) (fun r hr => by
      rcases List.mem_append.1 hr with q | q
      · exact hg r q
      · rw [List.mem_singleton.1 q]
        show -40 ≤ rd h y.f1 - rd h y.f0 ∧ rd h y.f1 - rd h y.f0 ≤ 40
        omega) (fun r hr => hv r (List.mem_cons_of_mem _ hr)) hp (by omega)
    simpa only [List.length_append, List.length_singleton] using this
theorem rd_snoc (h : List Int) (x v : Int) (v0 : 0 ≤ v) : rd (h ++ [x]) v = if v < (h.length : Int) then rd h v else if v = (h.length : Int) then x else 0 := by
  obtain ⟨i, rfl⟩ : ∃ i : Nat, v = i := ⟨v.toNat, by omega⟩
  unfold rd
  rw [Int.toNat_natCast, List.getD_eq_getElem?_getD, List.getD_eq_getElem?_getD]
  by_cases c : i < h.length
  · rw [if_pos (by omega), List.getElem?_append_left c]
  · rw [if_neg (by omega), List.getElem?_append_right (by omega)]
    by_cases e : i = h.length
    · rw [if_pos (by omega), e, Nat.sub_self]; rfl
    · rw [if_neg (by omega)]
      obtain ⟨j, hj⟩ : ∃ j, i - h.length = j + 1 := ⟨i - h.length - 1, by omega⟩
      rw [hj]; rfl
theorem True_l0 {b : List Int} (hb : Bts b) {n : Int} {x : List Run} (hn : 2 ≤ n ∧ n ≤ 6) (hx : x.length ≤ 12) (hv : ∀ r ∈ x, 0 ≤ r.f0 ∧ r.f0 < n ∧ 0 ≤ r.f1 ∧ r.f1 < n) (c : Nat) : ∀ (h : List Int) (p : Int) (k : Nat), n - (h.length : Int) = c → (∀ v : Int, 0 ≤ v → v < (h.length : Int) → -20 ≤ rd h v ∧ rd h v ≤ 20) → 0 ≤ p → p + c ≤ 900 → c + 40 < k →
    ∃ x' q, spec_l91True.l0 k n x h (h.length : Int) b p = some (n, x', q) ∧ x'.length ≤ 12 ∧ ∀ r ∈ x', -60 ≤ r.f2 ∧ r.f2 ≤ 60 := by
  induction c with
  | zero =>
    intro h p k hc hbd hp hp' hk
    obtain ⟨k, rfl⟩ : ∃ j, k = j + 1 := ⟨k - 1, by omega⟩
    rw [spec_l91True.l0, if_neg (by omega)]
    exact True_l1 hb (n := n) (h := h) (by omega) (fun v v0 v1 => hbd v v0 (by omega)) x [] p k (by simpa using hx) (by simp) hv (by omega) (by omega)
  | succ c ih =>
    intro h p k hc hbd hp hp' hk
    obtain ⟨k, rfl⟩ : ∃ j, k = j + 2 := ⟨k - 2, by omega⟩
    obtain ⟨v1, e1, v10, v11⟩ := pick_ok k hb (p := p) (n := 41) (by omega) (by omega)
    rw [spec_l91True.l0, if_pos (by omega), e1]
    simp only [Option.bind_some]
    rw [if_pos (by omega), rw64 (x := v1 - 20) (by omega) (by omega), rw64 (x := (h.length : Int) + 1) (by omega) (by omega)]
    have := ih (h ++ [v1 - 20]) (p + 1) (k + 1) (by simp; omega) (fun v v0 hv1 => by
      rw [rd_snoc _ _ _ v0]
      split
      · next q => exact hbd v v0 q
      · split <;> omega) (by omega) (by omega) (by omega)
    simpa only [List.length_append, List.length_singleton, Int.natCast_add, Int.cast_ofNat_Int] using this
theorem l91True_ok (k : Nat) {b : List Int} (hb : Bts b) (hk : 200 < k) : ∃ n x q, spec_l91True.f k b 0 6 = some (n, x, q) ∧ (nvB n x = true → ∀ r ∈ x, r.f2 ≤ 60) := by
  unfold spec_l91True.f
  obtain ⟨n, x, q, e, q0, q1, hl, n0, n1⟩ := l91Net_ok k hb (p := 0) (m := 6) (by omega) (by omega) (by omega)
  rw [e]
  simp only [Option.bind_some]
  rw [spec_NetValid_eq k n x (by omega)]
  simp only [Option.bind_some]
  by_cases hv : nvB n x = true
  · have hv2 := hv
    unfold nvB at hv2
    rw [Bool.and_eq_true, decide_eq_true_iff, List.all_eq_true] at hv2
    rw [if_pos hv]
    obtain ⟨x', q', e', _, h2⟩ := True_l0 hb (n := n) (x := x) ⟨n0, n1⟩ hv2.1.2.2 (fun r hr => by
      have := hv2.2 r hr
      unfold rvB at this
      have := of_decide_eq_true this
      omega) n.toNat [] q k (by simp; omega) (fun v v0 v1 => absurd v1 (by simp; omega)) (by omega) (by omega) (by omega)
    exact ⟨n, x', q', e', fun _ r hr => (h2 r hr).2⟩
  · rw [if_neg hv]
    exact ⟨n, x, q, rfl, fun h => absurd h hv⟩
theorem DrawLoopCloses_ok (k : Nat) (hk : 200 < k) {bs : List Int} (hbs : ∀ x ∈ bs, (Lit.int .u8 x).wf = true) : ∃ n l, spec_DrawLoopCloses.f k bs = some (n, l) ∧ (nvB n l = true → ∀ r ∈ l, r.f2 ≤ 60) := by
  obtain ⟨b, e, hb⟩ := open_ok hbs
  obtain ⟨n, x, q, e2, h⟩ := l91True_ok k hb hk
  unfold spec_DrawLoopCloses.f
  rw [e]
  simp only [Option.bind_some]
  rw [e2]
  exact ⟨n, x, rfl, h⟩
end Go.Proofs.Ytmcfhmflncghiaa.Pure
namespace Go.Proofs.Ytmcfhmflncghiaa.Pure
open Go.RowKit Go.Proofs.Ytmcfhmflncghiaa.Q Go.Proofs.YtmcfhmflncghiaaW.PrintWords Go.Proofs.YtmcfhmflncghiaaW.PrintLast Go.Proofs.YtmcfhmflncghiaaW.PrintMore
theorem Lk.ends {l l' : List Run} (hs : ∀ r ∈ l, ∃ r' ∈ l', r'.f0 = r.f0 ∧ r'.f1 = r.f1) {a b : Int} (h : Lk l a b) : Lk l' a b := by
  induction h with
  | refl => exact .refl _
  | fwd hm _ ih =>
    obtain ⟨r', h1, h2, h3⟩ := hs _ hm
    rw [← h2] at ih
    rw [← h3]
    exact .fwd h1 ih
  | bwd hm _ ih =>
    obtain ⟨r', h1, h2, h3⟩ := hs _ hm
    rw [← h3] at ih
    rw [← h2]
    exact .bwd h1 ih
def bump (y : Run) : Run := ⟨y.f0, y.f1, y.f2 + 1, y.f3⟩
theorem nvB_mk {n : Int} {l : List Run} (hn : 2 ≤ n ∧ n ≤ 6 ∧ l.length ≤ 12) (h : ∀ r ∈ l, rvB n r = true) : nvB n l = true := by
  unfold nvB
  rw [Bool.and_eq_true, decide_eq_true_iff, List.all_eq_true]
  exact ⟨hn, h⟩
theorem closes_bump (k : Nat) (hk : 300 < k) {n : Int} {pre suf : List Run} {y : Run} (hw : wholeB n (pre ++ y :: suf) = true) {h : Int → Int} (hp : pot h (pre ++ y :: suf)) (hy : y.f2 ≤ 60) : impl_LoopCloses.f k n (pre ++ bump y :: suf) = some (!(wholeB n (pre ++ suf))) := by
  have hv := (wholeB_iff.1 hw).1
  have hn := nvB_n hv
  have hall : ∀ r ∈ pre ++ y :: suf, rvB n r = true := by
    unfold nvB at hv
    rw [Bool.and_eq_true, List.all_eq_true] at hv
    exact hv.2
  have hsub : ∀ r ∈ pre ++ suf, r ∈ pre ++ y :: suf := fun r hr => by
    rcases List.mem_append.1 hr with q | q
    · exact List.mem_append_left _ q
    · exact List.mem_append_right _ (List.mem_cons_of_mem _ q)
  have hlen : (pre ++ suf).length + 1 = (pre ++ y :: suf).length := by simp; omega
  have hlen2 : (pre ++ bump y :: suf).length = (pre ++ y :: suf).length := by simp
  have hyv := nvB_all hv (show y ∈ pre ++ y :: suf by simp)
  have hv2 : nvB n (pre ++ bump y :: suf) = true := nvB_mk (by omega) fun r hr => by
    rcases List.mem_append.1 hr with q | q
    · exact hall r (List.mem_append_left _ q)
    · rcases List.mem_cons.1 q with z | z
      · rw [z]
        unfold rvB bump
        exact decide_eq_true (by dsimp only; omega)
      · exact hall r (List.mem_append_right _ (List.mem_cons_of_mem _ z))
  have hv3 : nvB n (pre ++ suf) = true := nvB_mk (by omega) fun r hr => hall r (hsub r hr)
  have hw2 : wholeB n (pre ++ bump y :: suf) = true := wholeB_iff.2 ⟨hv2, fun v v0 v1 => ((wholeB_iff.1 hw).2 v v0 v1).ends fun r hr => by
    rcases List.mem_append.1 hr with q | q
    · exact ⟨r, List.mem_append_left _ q, rfl, rfl⟩
    · rcases List.mem_cons.1 q with z | z
      · exact ⟨bump y, by simp, by rw [z]; rfl, by rw [z]; rfl⟩
      · exact ⟨r, List.mem_append_right _ (List.mem_cons_of_mem _ z), rfl, rfl⟩⟩
  have hpy := hp y (by simp)
  by_cases c : wholeB n (pre ++ suf) = true
  · rw [c]
    obtain ⟨h', hp'⟩ := ft_pot (n := n) (by omega) (nvB_VL hv2) _ (Nat.le_refl _)
    rw [LoopCloses_eq k hk hw2 hp']
    congr 1
    rw [Bool.not_true, Bool.eq_false_iff]
    intro e
    have hq := (pot_iff hp').1 e
    have hcw := (wholeB_iff.1 c).2
    have hlk : Lk (pre ++ suf) y.f0 y.f1 := (hcw y.f0 hyv.1.1 hyv.1.2.1).symm.trans (hcw y.f1 hyv.1.2.2.1 hyv.1.2.2.2.1)
    have e1 := hlk.const (fun v => h' v - h v) fun r hr => by
      have a := hp r (hsub r hr)
      have b := hq r (by
        rcases List.mem_append.1 hr with q | q
        · exact List.mem_append_left _ q
        · exact List.mem_append_right _ (List.mem_cons_of_mem _ q))
      omega
    have e2 : h' y.f1 - h' y.f0 = y.f2 + 1 := hq (bump y) (by simp)
    omega
  · have cf : wholeB n (pre ++ suf) = false := Bool.eq_false_iff.2 c
    rw [cf, Bool.not_false]
    have L := leastR_lst (n := n) (by omega) _ (nvB_VL hv3)
    generalize leastR n (pre ++ suf) = o at L
    have hne : rd o y.f0 ≠ rd o y.f1 := fun e => c (wholeB_iff.2 ⟨hv3, fun v v0 v1 => by
      rw [lk_iff L ⟨by omega, by omega⟩ ⟨v0, v1⟩]
      refine ((wholeB_iff.1 hw).2 v v0 v1).const (rd o) fun r hr => ?_
      rcases List.mem_append.1 hr with q | q
      · exact L.cl r (List.mem_append_left _ q)
      · rcases List.mem_cons.1 q with z | z
        · rw [z]; exact e
        · exact L.cl r (List.mem_append_right _ z)⟩)
    refine LoopCloses_pot k hk hw2 (h := fun v => if rd o v = rd o y.f1 then h v + 1 else h v) fun r hr => ?_
    have old : r ∈ pre ++ suf → (if rd o r.f1 = rd o y.f1 then h r.f1 + 1 else h r.f1) - (if rd o r.f0 = rd o y.f1 then h r.f0 + 1 else h r.f0) = r.f2 := fun q => by
      have e := L.cl r q
      have := hp r (hsub r q)
      rw [e]
      split <;> omega
    dsimp only
    rcases List.mem_append.1 hr with q | q
    · exact old (List.mem_append_left _ q)
    · rcases List.mem_cons.1 q with z | z
      · rw [z]
        show (if rd o y.f1 = rd o y.f1 then h y.f1 + 1 else h y.f1) - (if rd o y.f0 = rd o y.f1 then h y.f0 + 1 else h y.f0) = y.f2 + 1
        rw [if_pos rfl, if_neg hne]
        omega
      · exact old (List.mem_append_right _ z)
theorem FnLoopCloses : laws_FnLoopCloses.Pure := by
  intro l0 l1 _ _ hl0 _ _ _
  refine ⟨2003, ?_⟩
  unfold laws_FnLoopCloses.f
  split
  · rw [laws_FnLoopCloses.j0, if_pos rfl]
  · rw [laws_FnLoopCloses.j0]
    split
    · rfl
    · next hl1 =>
      have hl1 : l1.length ≤ 1048576 := by
        rw [decide_eq_true_iff] at hl1; omega
      obtain ⟨n, l, hd, hrs⟩ := DrawLoopCloses_ok 2002 (by omega) hl0
      rw [hd, Option.bind_some]
      dsimp only
      by_cases hw : wholeB n l = true
      · have hv := (wholeB_iff.1 hw).1
        have hn := nvB_n hv
        have hVL := nvB_VL hv
        obtain ⟨h, hp⟩ := ft_pot (n := n) (by omega) hVL l.length (Nat.le_refl _)
        have hall := pot_iff hp
        rw [LoopCloses_eq 2002 (by omega) hw hp, Option.bind_some, spec_LoopCloses_eq 2002 (by omega) hw hp, Option.bind_some, if_neg (by simp), laws_FnLoopCloses.j1]
        by_cases hc : ((errF l (ftree n l l.length) h l.length 0).all fun x => decide (x = 0)) = true
        · have hpl := hall.1 hc
          obtain ⟨x, e1, e2, e3, e4⟩ := TreeHeights_eq 2001 (by omega) hw hp
          have hpx : pot (rd x) l := fun r hr => by
            have a := hVL r hr
            have := hpl r hr
            have b1 := e4 r.f1 a.2.2.1 a.2.2.2
            have b0 := e4 r.f0 a.1 a.2.1
            omega
          have hl0 : l.length ≠ 0 := fun e => by
            have hsz := ft_size hw
            have := ft_len n l l.length
            omega
          rw [hc, if_neg (by simp), TreeFirst_eq 2001 (by omega) hw, Option.bind_some]
          dsimp only
          rw [e1, Option.bind_some]
          dsimp only
          rw [if_pos rfl, if_pos rfl, laws_FnLoopCloses.j2, if_neg (by simp; exact fun e => hl0 (by simp [e])), if_neg (by omega), Option.bind_some, if_pos (by simp; omega), Option.bind_some, List.nil_append]
          have hi0 : 0 ≤ (l1.length : Int) % (l.length : Int) := Int.emod_nonneg _ (by omega)
          have hi1 : (l1.length : Int) % (l.length : Int) < (l.length : Int) := Int.emod_lt_of_pos _ (by omega)
          generalize (l1.length : Int) % (l.length : Int) = i at hi0 hi1
          obtain ⟨i, rfl⟩ : ∃ j : Nat, i = j := ⟨i.toNat, by omega⟩
          have ew : wrap64 ((i : Int) + 1) = ((i + 1 : Nat) : Int) := by rw [nw64 (by omega) (by omega)]; omega
          have hil : i < l.length := by omega
          have hri := nvB_all hv (rdT_mem hil)
          have hr60 := hrs hv _ (rdT_mem hil)
          have er : (rd_T32 l (i : Int)) = rdT l i := rfl
          have esp : l = l.take i ++ rdT l i :: l.drop (i + 1) := by
            have h1 : l.drop i = rdT l i :: l.drop (i + 1) := by rw [List.drop_eq_getElem_cons hil, rdT_get hil]
            rw [← h1, List.take_append_drop]
          have eset : l.set i (⟨(rdT l i).f0, (rdT l i).f1, (rdT l i).f2 + 1, (rdT l i).f3⟩ : Run) = l.take i ++ bump (rdT l i) :: l.drop (i + 1) := List.set_eq_take_append_cons_drop ▸ by rw [if_pos hil]; rfl
          have ecl := closes_bump 2000 (by omega) (n := n) (pre := l.take i) (suf := l.drop (i + 1)) (y := rdT l i) (esp ▸ hw) (esp ▸ hpl) hr60
          rw [if_pos hi0, if_pos hi1, Option.bind_some, if_pos (by omega), Option.bind_some, if_pos (by simp; omega), Option.bind_some, List.nil_append, ew, if_pos (by omega), if_pos (by omega), Option.bind_some, if_pos (by simp; omega), (NetFits_true 2000 n l x (by omega) hv e2 e3).1.2 hpx, Option.bind_some, if_pos rfl, er, nw64 (x := (rdT l i).f2 + 1) (by omega) (by omega), Int.toNat_natCast, eset, ecl, Option.bind_some, Int.toNat_natCast, NetWhole_eq 2000 n _ (by omega), Option.bind_some]
          simp
        · have hcf := Bool.eq_false_iff.2 hc
          rw [hcf, if_pos (by simp)]
          rfl
      · have hw2 : wholeB n l = false := Bool.eq_false_iff.2 hw
        rw [LoopCloses_none 2002 (by omega) hw2, Option.bind_some, spec_LoopCloses_none 2002 (by omega) hw2, Option.bind_some, if_neg (by simp), laws_FnLoopCloses.j1, if_pos (by simp)]
        rfl
end Go.Proofs.Ytmcfhmflncghiaa.Pure
