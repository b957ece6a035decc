/- Part 5 of what the proof of this law rests on: the functions of the translation as plain Lean functions with their walks, and the plain laws behind. -/
import Derived.Below
import Derived.Test.YtgdhgncdpmalcaaMFnPolyConvex4
namespace Go.Proofs.Ytgdhgncdpmalcaa.Q
open Go.RowKit Go.Proofs.YtgdhgncdpmalcaaW.PrintWords Go.Proofs.YtgdhgncdpmalcaaW.PrintLast Go.Proofs.YtgdhgncdpmalcaaW.PrintMore
attribute [local go_sem] max2_int min2_int max_two min_two max_three min_three max_four min_four
set_option linter.unusedVariables false
set_option linter.unusedSimpArgs false

/-! ### spec_PolyConvex: function 29 -/
def spec_PolyConvex.l0 : Nat → List (S32) → Int → Int → Int → Option (Bool)
  | 0, _, _, _, _ => none
  | k + 1, x0, x3, x4, x5 => if x5 < x4 then (if 0 ≤ x5 then (if x5 < (x0.length : Int) then (if x4 = 0 then (none) else (if 0 ≤ (Int.tmod (wrap64 (x5 + 1)) x4) then (if (Int.tmod (wrap64 (x5 + 1)) x4) < (x0.length : Int) then (if 0 ≤ (Int.tmod (wrap64 (x5 + 2)) x4) then (if (Int.tmod (wrap64 (x5 + 2)) x4) < (x0.length : Int) then ((spec_l31Side.f ((rd_T32 x0 x5).f0) ((rd_T32 x0 x5).f1) ((rd_T32 x0 (Int.tmod (wrap64 (x5 + 1)) x4)).f0) ((rd_T32 x0 (Int.tmod (wrap64 (x5 + 1)) x4)).f1) ((rd_T32 x0 (Int.tmod (wrap64 (x5 + 2)) x4)).f0) ((rd_T32 x0 (Int.tmod (wrap64 (x5 + 2)) x4)).f1)).bind fun t503 => (if t503 = (wrap64 (-x3)) then (some false) else (spec_PolyConvex.l0 k x0 x3 x4 (wrap64 (x5 + 1))))) else (none)) else (none)) else (none)) else (none))) else (none)) else (none)) else (some true)
def spec_PolyConvex.f (k : Nat) (l0 : List (S32)) : Option (Bool) := (spec_PolyValid.f l0).bind fun t497 => (if t497 = true then ((spec_l31Area.f k l0).bind fun t498 => ((spec_l1Sign.f t498).bind fun t499 => (spec_PolyConvex.l0 k l0 t499 (l0.length : Int) 0))) else (some false))
def spec_PolyConvex.T8 : Bool × List (List Nat × List Nat) := (true, [([], []), ([], []), ([0, 1], [0, 1]), ([2], [2]), ([], []), ([], []), ([5], [5]), ([], []), ([6, 7], [6, 7]), ([4, 8], [4, 8]), ([9], [9]), ([], []), ([], []), ([12], [12]), ([], []), ([13, 14], [13, 14]), ([11, 15], [11, 15]), ([16], [16]), ([3, 10, 17], [3, 10, 17]), ([], []), ([19], [19]), ([18, 20], [18, 20])])
def spec_PolyConvex.B8 : List Nat := [0, 0, 3, 7, 0, 0, 32, 0, 224, 496, 1008, 0, 0, 4096, 0, 28672, 63488, 129024, 262143, 0, 524288, 2097151]
theorem spec_PolyConvex.tab8 : rtab .any (opsOf Try.f29 8) = spec_PolyConvex.T8 := by kernel_rfl
theorem spec_PolyConvex.bits8 : waitsOk spec_PolyConvex.T8.2 spec_PolyConvex.B8 = true := by kernel_rfl
set_option maxHeartbeats 8000000 in
set_option maxRecDepth 100000 in
theorem spec_PolyConvex.calls (k : Nat) (A0 : Option Addr) (c0 : Nat) (l0 : List (S32)) (r : Bool) (w : World) (hr0 : Kd.C k32 w A0 l0.length l0) (hc0 : l0.length ≤ c0) (h : spec_PolyConvex.f k l0 = some r) :
    Calls Try.prog 29 #[.slice A0 l0.length c0] w fun e w' => e = .returned (.bool r) ∧ Below w.heap.size w w' := by
  have hu32 := Try.underlying32
  have HR0 := Aside0.mk hr0
  have HC0 := Aside0.mk hc0
  clear hr0 hc0
  have HB := Aside0.mk (Below.refl w.heap.size w)
  have H : ((spec_PolyValid.f l0).bind fun t497 => (if t497 = true then ((spec_l31Area.f k l0).bind fun t498 => ((spec_l1Sign.f t498).bind fun t499 => (spec_PolyConvex.l0 k l0 t499 (l0.length : Int) 0))) else (some false))) = some r := h
  clear h
  replace H := Option.bind_eq_some_iff.mp H
  obtain ⟨t497, A20, H⟩ := H
  replace H : (if t497 = true then ((spec_l31Area.f k l0).bind fun t498 => ((spec_l1Sign.f t498).bind fun t499 => (spec_PolyConvex.l0 k l0 t499 (l0.length : Int) 0))) else (some false)) = some r := H
  have A2 := Aside0.mk A20
  clear A20
  by_cases c3 : t497 = true
  · subst c3
    have H1 : ((spec_l31Area.f k l0).bind fun t498 => ((spec_l1Sign.f t498).bind fun t499 => (spec_PolyConvex.l0 k l0 t499 (l0.length : Int) 0))) = some r := by rw [if_pos rfl] at H; exact H
    clear H
    have H := H1
    clear H1
    replace H := Option.bind_eq_some_iff.mp H
    obtain ⟨t498, A40, H⟩ := H
    replace H : ((spec_l1Sign.f t498).bind fun t499 => (spec_PolyConvex.l0 k l0 t499 (l0.length : Int) 0)) = some r := H
    have A4 := Aside0.mk A40
    clear A40
    replace H := Option.bind_eq_some_iff.mp H
    obtain ⟨t499, A50, H⟩ := H
    replace H : (spec_PolyConvex.l0 k l0 t499 (l0.length : Int) 0) = some r := H
    have A5 := Aside0.mk A50
    clear A50
    have H' := Aside0.mk H
    clear H
    go_enter Try.func29, Try.ntmps29
    go_wp2_with (first | ((with_reducible refine gate_callee (f := 19) rfl ?_); refine goesL_ (some 7) rfl rfl Try.func19 (by kernel_rfl) rfl #[.slice A0 l0.length c0] rfl qq3 ?_; (with_reducible refine (spec_PolyValid.calls _ _ l0 true _ ?side1 ?side2 A2.out).mono ?_); (case side1 => exact qq35); (case side2 => exact HC0.out); rintro e w6 ⟨rfl, hb⟩; refine ⟨_, rfl, ?_⟩; have n0_ := Aside0.mk (below_step qq1 hb); clear HB; have HB := n0_; clear n0_; (try clear hb); (try clear hb2); (try clear hk); (try clear hi)) | ((with_reducible refine gate_callee (f := 46) rfl ?_); refine goesL_ (some 10) rfl rfl Try.func46 (by kernel_rfl) rfl #[.slice A0 l0.length c0] rfl qq3 ?_; (with_reducible refine (spec_l31Area.calls k _ _ l0 t498 _ ?side1 ?side2 A4.out).mono ?_); (case side1 => exact qq49 HR0.out HB.out); (case side2 => exact HC0.out); rintro e w7 ⟨rfl, hb⟩; refine ⟨_, rfl, ?_⟩; have n0_ := Aside0.mk (below_step qq1 hb); clear HB; have HB := n0_; clear n0_; (try clear hb); (try clear hb2); (try clear hk); (try clear hi)) | ((with_reducible refine gate_callee (f := 63) rfl ?_); refine goesL_ (some 11) rfl rfl Try.func63 (by kernel_rfl) rfl #[.int .i64 t498] rfl qq3 ?_; (with_reducible refine (spec_l1Sign.calls t498 t499 _ A5.out).mono ?_); rintro e w8 ⟨rfl, hb⟩; refine ⟨_, rfl, ?_⟩; have n0_ := Aside0.mk (below_step qq1 hb); clear HB; have HB := n0_; clear n0_; (try clear hb); (try clear hb2); (try clear hk); (try clear hi)))
    go_loopg [5] k (fun kq v5 w' => ∃ (x5_1 : Int), v5 = .int .i64 x5_1 ∧ Aside0 (spec_PolyConvex.l0 kq l0 t499 (l0.length : Int) x5_1 = some r) ∧ Aside0 (kq ≤ k) ∧ Aside0 (Below w.heap.size w w'))
    case atStart => exact ⟨(0), qq24, H', ⟨Nat.le_refl _⟩, ⟨qq1⟩⟩
    case round =>
      clear H'
      try clear c1
      try clear c2
      try clear p2
      try clear c3
      try clear c4
      try clear c6
      obtain ⟨x5_1, rfl, HA, HK1, HB⟩ := hrel
      cases gk with
      | zero => exact absurd HA.out (by simp [spec_PolyConvex.l0])
      | succ k1 =>
        have H := HA.out
        clear HA
        simp only [spec_PolyConvex.l0] at H
        by_cases c9 : x5_1 < (l0.length : Int)
        · rw [if_pos c9] at H
          have c9b0 : decide (x5_1 < (l0.length : Int)) = true := decide_eq_true c9
          clear c9
          by_cases c10 : 0 ≤ x5_1
          · rw [if_pos c10] at H
            have c10b0 : decide (0 ≤ x5_1) = true := decide_eq_true c10
            clear c10
            by_cases c11 : x5_1 < (l0.length : Int)
            · rw [if_pos c11] at H
              have c11b0 : decide (x5_1 < (l0.length : Int)) = true := decide_eq_true c11
              clear c11
              by_cases c12 : (l0.length : Int) = 0
              · rw [if_pos c12] at H
                exact absurd H (by simp)
              · rw [if_neg c12] at H
                have c12b0 : ((l0.length : Int) == 0) = false := beq_eq_false_iff_ne.mpr c12
                have c12b1 : ((l0.length : Int) != 0) = true := bne_iff_ne.mpr c12
                have c12b2 : ¬ (l0 = []) := fun h_ => c12 (by rw [h_]; rfl)
                obtain ⟨ji13, hji13⟩ : ∃ j_ : Int, (Int.tmod (wrap64 (x5_1 + 1)) (l0.length : Int)) = j_ := ⟨_, rfl⟩
                replace H : (if 0 ≤ (ji13) then (if (ji13) < (l0.length : Int) then (if 0 ≤ (Int.tmod (wrap64 (x5_1 + 2)) (l0.length : Int)) then (if (Int.tmod (wrap64 (x5_1 + 2)) (l0.length : Int)) < (l0.length : Int) then ((spec_l31Side.f ((rd_T32 l0 x5_1).f0) ((rd_T32 l0 x5_1).f1) ((rd_T32 l0 (ji13)).f0) ((rd_T32 l0 (ji13)).f1) ((rd_T32 l0 (Int.tmod (wrap64 (x5_1 + 2)) (l0.length : Int))).f0) ((rd_T32 l0 (Int.tmod (wrap64 (x5_1 + 2)) (l0.length : Int))).f1)).bind fun t503 => (if t503 = (wrap64 (-t499)) then (some false) else (spec_PolyConvex.l0 k1 l0 t499 (l0.length : Int) (wrap64 (x5_1 + 1))))) else (none)) else (none)) else (none)) else (none)) = some r := by first | (rw [hji13] at H; exact H) | (simp only [hji13] at H ⊢; exact H)
                by_cases c14 : 0 ≤ (ji13)
                · rw [if_pos c14] at H
                  have c14b0 : decide (0 ≤ (ji13)) = true := decide_eq_true c14
                  clear c14
                  by_cases c15 : (ji13) < (l0.length : Int)
                  · rw [if_pos c15] at H
                    have c15b0 : decide ((ji13) < (l0.length : Int)) = true := decide_eq_true c15
                    clear c15
                    obtain ⟨ji16, hji16⟩ : ∃ j_ : Int, (Int.tmod (wrap64 (x5_1 + 2)) (l0.length : Int)) = j_ := ⟨_, rfl⟩
                    replace H : (if 0 ≤ (ji16) then (if (ji16) < (l0.length : Int) then ((spec_l31Side.f ((rd_T32 l0 x5_1).f0) ((rd_T32 l0 x5_1).f1) ((rd_T32 l0 (ji13)).f0) ((rd_T32 l0 (ji13)).f1) ((rd_T32 l0 (ji16)).f0) ((rd_T32 l0 (ji16)).f1)).bind fun t503 => (if t503 = (wrap64 (-t499)) then (some false) else (spec_PolyConvex.l0 k1 l0 t499 (l0.length : Int) (wrap64 (x5_1 + 1))))) else (none)) else (none)) = some r := by first | (rw [hji16] at H; exact H) | (simp only [hji16] at H ⊢; exact H)
                    by_cases c17 : 0 ≤ (ji16)
                    · rw [if_pos c17] at H
                      have c17b0 : decide (0 ≤ (ji16)) = true := decide_eq_true c17
                      clear c17
                      by_cases c18 : (ji16) < (l0.length : Int)
                      · rw [if_pos c18] at H
                        have c18b0 : decide ((ji16) < (l0.length : Int)) = true := decide_eq_true c18
                        clear c18
                        replace H := Option.bind_eq_some_iff.mp H
                        obtain ⟨t503, A190, H⟩ := H
                        replace H : (if t503 = (wrap64 (-t499)) then (some false) else (spec_PolyConvex.l0 k1 l0 t499 (l0.length : Int) (wrap64 (x5_1 + 1)))) = some r := H
                        have A19 := Aside0.mk A190
                        clear A190
                        by_cases c20 : t503 = (wrap64 (-t499))
                        · rw [if_pos c20] at H
                          have c20b0 : (t503 == (wrap64 (-t499))) = true := beq_iff_eq.mpr c20
                          have c20b1 : (t503 != (wrap64 (-t499))) = false := bne_eq_false_iff_eq.mpr c20
                          clear c20
                          obtain rfl := Option.some.inj H
                          try go_wp2
                          have n0_ := Aside0.mk (below_drew1 HB.out)
                          clear HB
                          have HB := n0_
                          clear n0_
                          have p500 : 0 ≤ (x5_1 : Int) := of_decide_eq_true qq10
                          have q500 : x5_1 < (l0.length : Int) := of_decide_eq_true qq10
                          obtain ⟨ad500, e500, hx500_0, hx500_1⟩ := at_T32 HR0.out x5_1 p500 q500
                          have hw500_1 := hx500_1
                          have hw500_0 := hx500_0
                          cases e500
                          replace hx500_0 := (HB.out.cell (World.block_lt_of_cell? w _ hx500_0)).trans hx500_0
                          replace hx500_1 := (HB.out.cell (World.block_lt_of_cell? w _ hx500_1)).trans hx500_1
                          replace p500 := eq_true p500
                          replace q500 := eq_true q500
                          have p501 : 0 ≤ ((ji13) : Int) := of_decide_eq_true qq10
                          have q501 : (ji13) < (l0.length : Int) := of_decide_eq_true qq10
                          obtain ⟨ad501, e501, hx501_0, hx501_1⟩ := at_T32 HR0.out (ji13) p501 q501
                          have hw501_1 := hx501_1
                          have hw501_0 := hx501_0
                          obtain rfl : ad500 = ad501 := (by injection e501)
                          replace hx501_0 := (HB.out.cell (World.block_lt_of_cell? w _ hx501_0)).trans hx501_0
                          replace hx501_1 := (HB.out.cell (World.block_lt_of_cell? w _ hx501_1)).trans hx501_1
                          replace p501 := eq_true p501
                          replace q501 := eq_true q501
                          have p502 : 0 ≤ ((ji16) : Int) := of_decide_eq_true qq10
                          have q502 : (ji16) < (l0.length : Int) := of_decide_eq_true qq10
                          obtain ⟨ad502, e502, hx502_0, hx502_1⟩ := at_T32 HR0.out (ji16) p502 q502
                          have hw502_1 := hx502_1
                          have hw502_0 := hx502_0
                          obtain rfl : ad500 = ad502 := (by injection e502)
                          replace hx502_0 := (HB.out.cell (World.block_lt_of_cell? w _ hx502_0)).trans hx502_0
                          replace hx502_1 := (HB.out.cell (World.block_lt_of_cell? w _ hx502_1)).trans hx502_1
                          replace p502 := eq_true p502
                          replace q502 := eq_true q502
                          refine start_ (n := 22) (S := fun w' => w'.cell? (ad500.add ((x5_1).toNat * 2)) = some (.int .i64 ((rd_T32 l0 x5_1).f0)) ∧ w'.cell? ⟨(ad500.add ((x5_1).toNat * 2)).block, (ad500.add ((x5_1).toNat * 2)).off + 1, none⟩ = some (.int .i64 ((rd_T32 l0 x5_1).f1)) ∧ w'.cell? (ad500.add (((ji13)).toNat * 2)) = some (.int .i64 ((rd_T32 l0 (ji13)).f0)) ∧ w'.cell? ⟨(ad500.add (((ji13)).toNat * 2)).block, (ad500.add (((ji13)).toNat * 2)).off + 1, none⟩ = some (.int .i64 ((rd_T32 l0 (ji13)).f1)) ∧ w'.cell? (ad500.add (((ji16)).toNat * 2)) = some (.int .i64 ((rd_T32 l0 (ji16)).f0)) ∧ w'.cell? ⟨(ad500.add (((ji16)).toNat * 2)).block, (ad500.add (((ji16)).toNat * 2)).off + 1, none⟩ = some (.int .i64 ((rd_T32 l0 (ji16)).f1))) (ds := []) #[false, false, false, false, false, false, false, false, false, false, false, false, false, false, false, false, false, false, false, false, false, false] (by kernel_rfl) rfl rfl ⟨((HB.out.cell (World.block_lt_of_cell? w _ hw500_0)).trans hw500_0), ((HB.out.cell (World.block_lt_of_cell? w _ hw500_1)).trans hw500_1), ((HB.out.cell (World.block_lt_of_cell? w _ hw501_0)).trans hw501_0), ((HB.out.cell (World.block_lt_of_cell? w _ hw501_1)).trans hw501_1), ((HB.out.cell (World.block_lt_of_cell? w _ hw502_0)).trans hw502_0), ((HB.out.cell (World.block_lt_of_cell? w _ hw502_1)).trans hw502_1)⟩ (fun hHeld => ?_); refine with_tabW spec_PolyConvex.tab8 spec_PolyConvex.bits8 (fun HT_ HW_ => ?_)
                          generalize wr.drew = w21 at HB hx500_0 hx500_1 hx501_0 hx501_1 hx502_0 hx502_1 hHeld ⊢
                          refine pure_ (i := 0) (N := some 19) #[true, false, false, false, false, false, false, false, false, false, false, false, false, false, false, false, false, false, false, false, false, false] rfl rfl (any_of HT_.out (by kernel_rfl)) (fun _ _ _ h => h) (Or.inl ⟨by rfl, pA_⟩) pB_ ?_
                          refine pure_ (i := 1) (N := some 20) #[true, true, false, false, false, false, false, false, false, false, false, false, false, false, false, false, false, false, false, false, false, false] rfl rfl (any_of HT_.out (by kernel_rfl)) (fun _ _ _ h => h) (Or.inl ⟨by rfl, pA_⟩) pB_ ?_
                          refine pure_ (i := 2) (N := some 21) #[true, true, true, false, false, false, false, false, false, false, false, false, false, false, false, false, false, false, false, false, false, false] rfl rfl (any_of HT_.out (by kernel_rfl)) (fun _ _ _ h => h) (Or.inl ⟨by rfl, pA_⟩) pB_ ?_
                          refine pure_ (i := 4) (N := some 23) #[true, true, true, false, true, false, false, false, false, false, false, false, false, false, false, false, false, false, false, false, false, false] rfl rfl (any_of HT_.out (by kernel_rfl)) (fun _ _ _ h => h) (Or.inl ⟨by rfl, pA_⟩) pB_ ?_
                          refine pure_ (i := 5) (N := some 24) #[true, true, true, false, true, true, false, false, false, false, false, false, false, false, false, false, false, false, false, false, false, false] rfl rfl (any_of HT_.out (by kernel_rfl)) (fun _ _ _ h => h) (Or.inl ⟨by rfl, pA_⟩) pB_ ?_
                          refine pure_ (i := 6) (N := some 25) #[true, true, true, false, true, true, true, false, false, false, false, false, false, false, false, false, false, false, false, false, false, false] rfl rfl (any_of HT_.out (by kernel_rfl)) (fun _ _ _ h => h) (Or.inl ⟨by rfl, pA_⟩) pB_ ?_
                          refine pure_ (i := 7) (N := some 26) #[true, true, true, false, true, true, true, true, false, false, false, false, false, false, false, false, false, false, false, false, false, false] rfl rfl (any_of HT_.out (by kernel_rfl)) (fun _ _ _ h => h) (Or.inl ⟨by rfl, pA_⟩) pB_ ?_
                          refine pure_ (i := 8) (N := some 27) #[true, true, true, false, true, true, true, true, true, false, false, false, false, false, false, false, false, false, false, false, false, false] rfl rfl (any_of HT_.out (by kernel_rfl)) (fun _ _ _ h => h) (Or.inl ⟨by rfl, pA_⟩) pB_ ?_
                          refine pure_ (i := 9) (N := some 28) #[true, true, true, false, true, true, true, true, true, true, false, false, false, false, false, false, false, false, false, false, false, false] rfl rfl (any_of HT_.out (by kernel_rfl)) (fun _ _ _ h => h) (Or.inl ⟨by rfl, pA_⟩) pB_ ?_
                          refine pure_ (i := 11) (N := some 30) #[true, true, true, false, true, true, true, true, true, true, false, true, false, false, false, false, false, false, false, false, false, false] rfl rfl (any_of HT_.out (by kernel_rfl)) (fun _ _ _ h => h) (Or.inl ⟨by rfl, pA_⟩) pB_ ?_
                          refine pure_ (i := 12) (N := some 31) #[true, true, true, false, true, true, true, true, true, true, false, true, true, false, false, false, false, false, false, false, false, false] rfl rfl (any_of HT_.out (by kernel_rfl)) (fun _ _ _ h => h) (Or.inl ⟨by rfl, pA_⟩) pB_ ?_
                          refine pure_ (i := 13) (N := some 32) #[true, true, true, false, true, true, true, true, true, true, false, true, true, true, false, false, false, false, false, false, false, false] rfl rfl (any_of HT_.out (by kernel_rfl)) (fun _ _ _ h => h) (Or.inl ⟨by rfl, pA_⟩) pB_ ?_
                          refine pure_ (i := 14) (N := some 33) #[true, true, true, false, true, true, true, true, true, true, false, true, true, true, true, false, false, false, false, false, false, false] rfl rfl (any_of HT_.out (by kernel_rfl)) (fun _ _ _ h => h) (Or.inl ⟨by rfl, pA_⟩) pB_ ?_
                          refine pure_ (i := 15) (N := some 34) #[true, true, true, false, true, true, true, true, true, true, false, true, true, true, true, true, false, false, false, false, false, false] rfl rfl (any_of HT_.out (by kernel_rfl)) (fun _ _ _ h => h) (Or.inl ⟨by rfl, pA_⟩) pB_ ?_
                          refine pure_ (i := 16) (N := some 35) #[true, true, true, false, true, true, true, true, true, true, false, true, true, true, true, true, true, false, false, false, false, false] rfl rfl (any_of HT_.out (by kernel_rfl)) (fun _ _ _ h => h) (Or.inl ⟨by rfl, pA_⟩) pB_ ?_
                          refine pure_ (i := 19) (N := some 38) #[true, true, true, false, true, true, true, true, true, true, false, true, true, true, true, true, true, false, false, true, false, false] rfl rfl (any_of HT_.out (by kernel_rfl)) (fun _ _ _ h => h) (Or.inl ⟨by rfl, pA_⟩) pB_ ?_
                          refine pure_ (i := 20) (N := some 39) #[true, true, true, false, true, true, true, true, true, true, false, true, true, true, true, true, true, false, false, true, true, false] rfl rfl (any_of HT_.out (by kernel_rfl)) (fun _ _ _ h => h) (Or.inl ⟨by rfl, pA_⟩) pB_ ?_
                          refine take_ (i := 3) (N := some 22) (v := ?_) (a' := ?_) #[true, true, true, true, true, true, true, true, true, true, false, true, true, true, true, true, true, false, false, true, true, false] rfl rfl (take_ofW HT_.out HW_.out (by kernel_rfl)) (fun _ _ _ h => h) (Or.inl ⟨by rfl, ?_⟩) hHeld ?_ ?_
                          rotate_left
                          · rintro w' ⟨s0, s1, s2, s3, s4, s5⟩
                            go_simp
                            with_reducible rfl
                          rotate_left
                          · simp only [Act.put, List.setIfInBounds_toArray, List.set_cons_zero, List.set_cons_succ, i64_w, i32_w]
                            rfl
                          refine take_ (i := 10) (N := some 29) (v := ?_) (a' := ?_) #[true, true, true, true, true, true, true, true, true, true, true, true, true, true, true, true, true, false, false, true, true, false] rfl rfl (take_ofW HT_.out HW_.out (by kernel_rfl)) (fun _ _ _ h => h) (Or.inl ⟨by rfl, ?_⟩) hHeld ?_ ?_
                          rotate_left
                          · rintro w' ⟨s0, s1, s2, s3, s4, s5⟩
                            go_simp
                            with_reducible rfl
                          rotate_left
                          · simp only [Act.put, List.setIfInBounds_toArray, List.set_cons_zero, List.set_cons_succ, i64_w, i32_w]
                            rfl
                          refine take_ (i := 17) (N := some 36) (v := ?_) (a' := ?_) #[true, true, true, true, true, true, true, true, true, true, true, true, true, true, true, true, true, true, false, true, true, false] rfl rfl (take_ofW HT_.out HW_.out (by kernel_rfl)) (fun _ _ _ h => h) (Or.inl ⟨by rfl, ?_⟩) hHeld ?_ ?_
                          rotate_left
                          · rintro w' ⟨s0, s1, s2, s3, s4, s5⟩
                            go_simp
                            with_reducible rfl
                          rotate_left
                          · simp only [Act.put, List.setIfInBounds_toArray, List.set_cons_zero, List.set_cons_succ, i64_w, i32_w]
                            rfl
                          refine one_ (i := 18) (N := some 37) #[true, true, true, true, true, true, true, true, true, true, true, true, true, true, true, true, true, true, true, true, true, false] rfl rfl (one_of HT_.out (by kernel_rfl)) (by decide) (fun K hK => ?_)
                          refine goes_ Try.func64 (by kernel_rfl) rfl #[.agg #[.int .i64 ((rd_T32 l0 x5_1).f0), .int .i64 ((rd_T32 l0 x5_1).f1)], .agg #[.int .i64 ((rd_T32 l0 (ji13)).f0), .int .i64 ((rd_T32 l0 (ji13)).f1)], .agg #[.int .i64 ((rd_T32 l0 (ji16)).f0), .int .i64 ((rd_T32 l0 (ji16)).f1)]] (by rfl) rfl rfl qq67 ?_
                          with_reducible refine (spec_l31Side.calls ((rd_T32 l0 x5_1).f0) ((rd_T32 l0 x5_1).f1) ((rd_T32 l0 (ji13)).f0) ((rd_T32 l0 (ji13)).f1) ((rd_T32 l0 (ji16)).f0) ((rd_T32 l0 (ji16)).f1) t503 _ A19.out).mono ?_
                          rintro e w22 ⟨rfl, hb⟩
                          refine ⟨_, rfl, ?_⟩
                          have n0_ := Aside0.mk (below_step qq1 hb)
                          clear HB
                          have HB := n0_
                          clear n0_
                          (try clear hb)
                          (try clear hb2)
                          (try clear hk)
                          (try clear hi)
                          refine hK.out _ _ ⟨((HB.out.cell (World.block_lt_of_cell? w _ hw500_0)).trans hw500_0), ((HB.out.cell (World.block_lt_of_cell? w _ hw500_1)).trans hw500_1), ((HB.out.cell (World.block_lt_of_cell? w _ hw501_0)).trans hw501_0), ((HB.out.cell (World.block_lt_of_cell? w _ hw501_1)).trans hw501_1), ((HB.out.cell (World.block_lt_of_cell? w _ hw502_0)).trans hw502_0), ((HB.out.cell (World.block_lt_of_cell? w _ hw502_1)).trans hw502_1)⟩ (fun hHeld => ?_)
                          clear hK K
                          refine norm_ (a' := ?_) ?_ ?_
                          rotate_left
                          · show Act.put _ (some 37) _ = _
                            simp only [Act.put, List.setIfInBounds_toArray, List.set_cons_zero, List.set_cons_succ, i64_w, i32_w]
                            rfl
                          refine pure_ (i := 21) (N := some 40) #[true, true, true, true, true, true, true, true, true, true, true, true, true, true, true, true, true, true, true, true, true, true] rfl rfl (any_of HT_.out (by kernel_rfl)) (fun _ _ _ h => h) (Or.inl ⟨by rfl, pA_⟩) pB_ ?_
                          refine done_ (done_of HT_.out (by kernel_rfl)) ?_
                          try go_wp2
                          go_ret
                          exact ⟨by first | rfl | (simp [errW_none, errW_some] <;> rfl) | (simp only [← hji13, ← hji16]; first | rfl | (simp [errW_none, errW_some] <;> rfl)) | (simp [*, errW_none, errW_some] <;> rfl), qq1⟩
                        · rw [if_neg c20] at H
                          have c20b0 : (t503 == (wrap64 (-t499))) = false := beq_eq_false_iff_ne.mpr c20
                          have c20b1 : (t503 != (wrap64 (-t499))) = true := bne_iff_ne.mpr c20
                          have H' := Aside0.mk H
                          clear H
                          try go_wp2
                          have n0_ := Aside0.mk (below_drew1 HB.out)
                          clear HB
                          have HB := n0_
                          clear n0_
                          have p500 : 0 ≤ (x5_1 : Int) := of_decide_eq_true qq10
                          have q500 : x5_1 < (l0.length : Int) := of_decide_eq_true qq10
                          obtain ⟨ad500, e500, hx500_0, hx500_1⟩ := at_T32 HR0.out x5_1 p500 q500
                          have hw500_1 := hx500_1
                          have hw500_0 := hx500_0
                          cases e500
                          replace hx500_0 := (HB.out.cell (World.block_lt_of_cell? w _ hx500_0)).trans hx500_0
                          replace hx500_1 := (HB.out.cell (World.block_lt_of_cell? w _ hx500_1)).trans hx500_1
                          replace p500 := eq_true p500
                          replace q500 := eq_true q500
                          have p501 : 0 ≤ ((ji13) : Int) := of_decide_eq_true qq10
                          have q501 : (ji13) < (l0.length : Int) := of_decide_eq_true qq10
                          obtain ⟨ad501, e501, hx501_0, hx501_1⟩ := at_T32 HR0.out (ji13) p501 q501
                          have hw501_1 := hx501_1
                          have hw501_0 := hx501_0
                          obtain rfl : ad500 = ad501 := (by injection e501)
                          replace hx501_0 := (HB.out.cell (World.block_lt_of_cell? w _ hx501_0)).trans hx501_0
                          replace hx501_1 := (HB.out.cell (World.block_lt_of_cell? w _ hx501_1)).trans hx501_1
                          replace p501 := eq_true p501
                          replace q501 := eq_true q501
                          have p502 : 0 ≤ ((ji16) : Int) := of_decide_eq_true qq10
                          have q502 : (ji16) < (l0.length : Int) := of_decide_eq_true qq10
                          obtain ⟨ad502, e502, hx502_0, hx502_1⟩ := at_T32 HR0.out (ji16) p502 q502
                          have hw502_1 := hx502_1
                          have hw502_0 := hx502_0
                          obtain rfl : ad500 = ad502 := (by injection e502)
                          replace hx502_0 := (HB.out.cell (World.block_lt_of_cell? w _ hx502_0)).trans hx502_0
                          replace hx502_1 := (HB.out.cell (World.block_lt_of_cell? w _ hx502_1)).trans hx502_1
                          replace p502 := eq_true p502
                          replace q502 := eq_true q502
                          refine start_ (n := 22) (S := fun w' => w'.cell? (ad500.add ((x5_1).toNat * 2)) = some (.int .i64 ((rd_T32 l0 x5_1).f0)) ∧ w'.cell? ⟨(ad500.add ((x5_1).toNat * 2)).block, (ad500.add ((x5_1).toNat * 2)).off + 1, none⟩ = some (.int .i64 ((rd_T32 l0 x5_1).f1)) ∧ w'.cell? (ad500.add (((ji13)).toNat * 2)) = some (.int .i64 ((rd_T32 l0 (ji13)).f0)) ∧ w'.cell? ⟨(ad500.add (((ji13)).toNat * 2)).block, (ad500.add (((ji13)).toNat * 2)).off + 1, none⟩ = some (.int .i64 ((rd_T32 l0 (ji13)).f1)) ∧ w'.cell? (ad500.add (((ji16)).toNat * 2)) = some (.int .i64 ((rd_T32 l0 (ji16)).f0)) ∧ w'.cell? ⟨(ad500.add (((ji16)).toNat * 2)).block, (ad500.add (((ji16)).toNat * 2)).off + 1, none⟩ = some (.int .i64 ((rd_T32 l0 (ji16)).f1))) (ds := []) #[false, false, false, false, false, false, false, false, false, false, false, false, false, false, false, false, false, false, false, false, false, false] (by kernel_rfl) rfl rfl ⟨((HB.out.cell (World.block_lt_of_cell? w _ hw500_0)).trans hw500_0), ((HB.out.cell (World.block_lt_of_cell? w _ hw500_1)).trans hw500_1), ((HB.out.cell (World.block_lt_of_cell? w _ hw501_0)).trans hw501_0), ((HB.out.cell (World.block_lt_of_cell? w _ hw501_1)).trans hw501_1), ((HB.out.cell (World.block_lt_of_cell? w _ hw502_0)).trans hw502_0), ((HB.out.cell (World.block_lt_of_cell? w _ hw502_1)).trans hw502_1)⟩ (fun hHeld => ?_); refine with_tabW spec_PolyConvex.tab8 spec_PolyConvex.bits8 (fun HT_ HW_ => ?_)
                          generalize wr.drew = w23 at HB hx500_0 hx500_1 hx501_0 hx501_1 hx502_0 hx502_1 hHeld ⊢
                          refine pure_ (i := 0) (N := some 19) #[true, false, false, false, false, false, false, false, false, false, false, false, false, false, false, false, false, false, false, false, false, false] rfl rfl (any_of HT_.out (by kernel_rfl)) (fun _ _ _ h => h) (Or.inl ⟨by rfl, pA_⟩) pB_ ?_
                          refine pure_ (i := 1) (N := some 20) #[true, true, false, false, false, false, false, false, false, false, false, false, false, false, false, false, false, false, false, false, false, false] rfl rfl (any_of HT_.out (by kernel_rfl)) (fun _ _ _ h => h) (Or.inl ⟨by rfl, pA_⟩) pB_ ?_
                          refine pure_ (i := 2) (N := some 21) #[true, true, true, false, false, false, false, false, false, false, false, false, false, false, false, false, false, false, false, false, false, false] rfl rfl (any_of HT_.out (by kernel_rfl)) (fun _ _ _ h => h) (Or.inl ⟨by rfl, pA_⟩) pB_ ?_
                          refine pure_ (i := 4) (N := some 23) #[true, true, true, false, true, false, false, false, false, false, false, false, false, false, false, false, false, false, false, false, false, false] rfl rfl (any_of HT_.out (by kernel_rfl)) (fun _ _ _ h => h) (Or.inl ⟨by rfl, pA_⟩) pB_ ?_
                          refine pure_ (i := 5) (N := some 24) #[true, true, true, false, true, true, false, false, false, false, false, false, false, false, false, false, false, false, false, false, false, false] rfl rfl (any_of HT_.out (by kernel_rfl)) (fun _ _ _ h => h) (Or.inl ⟨by rfl, pA_⟩) pB_ ?_
                          refine pure_ (i := 6) (N := some 25) #[true, true, true, false, true, true, true, false, false, false, false, false, false, false, false, false, false, false, false, false, false, false] rfl rfl (any_of HT_.out (by kernel_rfl)) (fun _ _ _ h => h) (Or.inl ⟨by rfl, pA_⟩) pB_ ?_
                          refine pure_ (i := 7) (N := some 26) #[true, true, true, false, true, true, true, true, false, false, false, false, false, false, false, false, false, false, false, false, false, false] rfl rfl (any_of HT_.out (by kernel_rfl)) (fun _ _ _ h => h) (Or.inl ⟨by rfl, pA_⟩) pB_ ?_
                          refine pure_ (i := 8) (N := some 27) #[true, true, true, false, true, true, true, true, true, false, false, false, false, false, false, false, false, false, false, false, false, false] rfl rfl (any_of HT_.out (by kernel_rfl)) (fun _ _ _ h => h) (Or.inl ⟨by rfl, pA_⟩) pB_ ?_
                          refine pure_ (i := 9) (N := some 28) #[true, true, true, false, true, true, true, true, true, true, false, false, false, false, false, false, false, false, false, false, false, false] rfl rfl (any_of HT_.out (by kernel_rfl)) (fun _ _ _ h => h) (Or.inl ⟨by rfl, pA_⟩) pB_ ?_
                          refine pure_ (i := 11) (N := some 30) #[true, true, true, false, true, true, true, true, true, true, false, true, false, false, false, false, false, false, false, false, false, false] rfl rfl (any_of HT_.out (by kernel_rfl)) (fun _ _ _ h => h) (Or.inl ⟨by rfl, pA_⟩) pB_ ?_
                          refine pure_ (i := 12) (N := some 31) #[true, true, true, false, true, true, true, true, true, true, false, true, true, false, false, false, false, false, false, false, false, false] rfl rfl (any_of HT_.out (by kernel_rfl)) (fun _ _ _ h => h) (Or.inl ⟨by rfl, pA_⟩) pB_ ?_
                          refine pure_ (i := 13) (N := some 32) #[true, true, true, false, true, true, true, true, true, true, false, true, true, true, false, false, false, false, false, false, false, false] rfl rfl (any_of HT_.out (by kernel_rfl)) (fun _ _ _ h => h) (Or.inl ⟨by rfl, pA_⟩) pB_ ?_
                          refine pure_ (i := 14) (N := some 33) #[true, true, true, false, true, true, true, true, true, true, false, true, true, true, true, false, false, false, false, false, false, false] rfl rfl (any_of HT_.out (by kernel_rfl)) (fun _ _ _ h => h) (Or.inl ⟨by rfl, pA_⟩) pB_ ?_
                          refine pure_ (i := 15) (N := some 34) #[true, true, true, false, true, true, true, true, true, true, false, true, true, true, true, true, false, false, false, false, false, false] rfl rfl (any_of HT_.out (by kernel_rfl)) (fun _ _ _ h => h) (Or.inl ⟨by rfl, pA_⟩) pB_ ?_
                          refine pure_ (i := 16) (N := some 35) #[true, true, true, false, true, true, true, true, true, true, false, true, true, true, true, true, true, false, false, false, false, false] rfl rfl (any_of HT_.out (by kernel_rfl)) (fun _ _ _ h => h) (Or.inl ⟨by rfl, pA_⟩) pB_ ?_
                          refine pure_ (i := 19) (N := some 38) #[true, true, true, false, true, true, true, true, true, true, false, true, true, true, true, true, true, false, false, true, false, false] rfl rfl (any_of HT_.out (by kernel_rfl)) (fun _ _ _ h => h) (Or.inl ⟨by rfl, pA_⟩) pB_ ?_
                          refine pure_ (i := 20) (N := some 39) #[true, true, true, false, true, true, true, true, true, true, false, true, true, true, true, true, true, false, false, true, true, false] rfl rfl (any_of HT_.out (by kernel_rfl)) (fun _ _ _ h => h) (Or.inl ⟨by rfl, pA_⟩) pB_ ?_
                          refine take_ (i := 3) (N := some 22) (v := ?_) (a' := ?_) #[true, true, true, true, true, true, true, true, true, true, false, true, true, true, true, true, true, false, false, true, true, false] rfl rfl (take_ofW HT_.out HW_.out (by kernel_rfl)) (fun _ _ _ h => h) (Or.inl ⟨by rfl, ?_⟩) hHeld ?_ ?_
                          rotate_left
                          · rintro w' ⟨s0, s1, s2, s3, s4, s5⟩
                            go_simp
                            with_reducible rfl
                          rotate_left
                          · simp only [Act.put, List.setIfInBounds_toArray, List.set_cons_zero, List.set_cons_succ, i64_w, i32_w]
                            rfl
                          refine take_ (i := 10) (N := some 29) (v := ?_) (a' := ?_) #[true, true, true, true, true, true, true, true, true, true, true, true, true, true, true, true, true, false, false, true, true, false] rfl rfl (take_ofW HT_.out HW_.out (by kernel_rfl)) (fun _ _ _ h => h) (Or.inl ⟨by rfl, ?_⟩) hHeld ?_ ?_
                          rotate_left
                          · rintro w' ⟨s0, s1, s2, s3, s4, s5⟩
                            go_simp
                            with_reducible rfl
                          rotate_left
                          · simp only [Act.put, List.setIfInBounds_toArray, List.set_cons_zero, List.set_cons_succ, i64_w, i32_w]
                            rfl
                          refine take_ (i := 17) (N := some 36) (v := ?_) (a' := ?_) #[true, true, true, true, true, true, true, true, true, true, true, true, true, true, true, true, true, true, false, true, true, false] rfl rfl (take_ofW HT_.out HW_.out (by kernel_rfl)) (fun _ _ _ h => h) (Or.inl ⟨by rfl, ?_⟩) hHeld ?_ ?_
                          rotate_left
                          · rintro w' ⟨s0, s1, s2, s3, s4, s5⟩
                            go_simp
                            with_reducible rfl
                          rotate_left
                          · simp only [Act.put, List.setIfInBounds_toArray, List.set_cons_zero, List.set_cons_succ, i64_w, i32_w]
                            rfl
                          refine one_ (i := 18) (N := some 37) #[true, true, true, true, true, true, true, true, true, true, true, true, true, true, true, true, true, true, true, true, true, false] rfl rfl (one_of HT_.out (by kernel_rfl)) (by decide) (fun K hK => ?_)
                          refine goes_ Try.func64 (by kernel_rfl) rfl #[.agg #[.int .i64 ((rd_T32 l0 x5_1).f0), .int .i64 ((rd_T32 l0 x5_1).f1)], .agg #[.int .i64 ((rd_T32 l0 (ji13)).f0), .int .i64 ((rd_T32 l0 (ji13)).f1)], .agg #[.int .i64 ((rd_T32 l0 (ji16)).f0), .int .i64 ((rd_T32 l0 (ji16)).f1)]] (by rfl) rfl rfl qq67 ?_
                          with_reducible refine (spec_l31Side.calls ((rd_T32 l0 x5_1).f0) ((rd_T32 l0 x5_1).f1) ((rd_T32 l0 (ji13)).f0) ((rd_T32 l0 (ji13)).f1) ((rd_T32 l0 (ji16)).f0) ((rd_T32 l0 (ji16)).f1) t503 _ A19.out).mono ?_
                          rintro e w24 ⟨rfl, hb⟩
                          refine ⟨_, rfl, ?_⟩
                          have n0_ := Aside0.mk (below_step qq1 hb)
                          clear HB
                          have HB := n0_
                          clear n0_
                          (try clear hb)
                          (try clear hb2)
                          (try clear hk)
                          (try clear hi)
                          refine hK.out _ _ ⟨((HB.out.cell (World.block_lt_of_cell? w _ hw500_0)).trans hw500_0), ((HB.out.cell (World.block_lt_of_cell? w _ hw500_1)).trans hw500_1), ((HB.out.cell (World.block_lt_of_cell? w _ hw501_0)).trans hw501_0), ((HB.out.cell (World.block_lt_of_cell? w _ hw501_1)).trans hw501_1), ((HB.out.cell (World.block_lt_of_cell? w _ hw502_0)).trans hw502_0), ((HB.out.cell (World.block_lt_of_cell? w _ hw502_1)).trans hw502_1)⟩ (fun hHeld => ?_)
                          clear hK K
                          refine norm_ (a' := ?_) ?_ ?_
                          rotate_left
                          · show Act.put _ (some 37) _ = _
                            simp only [Act.put, List.setIfInBounds_toArray, List.set_cons_zero, List.set_cons_succ, i64_w, i32_w]
                            rfl
                          refine pure_ (i := 21) (N := some 40) #[true, true, true, true, true, true, true, true, true, true, true, true, true, true, true, true, true, true, true, true, true, true] rfl rfl (any_of HT_.out (by kernel_rfl)) (fun _ _ _ h => h) (Or.inl ⟨by rfl, pA_⟩) pB_ ?_
                          refine done_ (done_of HT_.out (by kernel_rfl)) ?_
                          try go_wp2
                          go_roundg k1
                          case measure => have := HK1.out; omega
                          case rel => exact ⟨(wrap64 (x5_1 + 1)), qq24, H', ⟨by have := HK1.out; omega⟩, ⟨qq1⟩⟩
                      · rw [if_neg c18] at H
                        exact absurd H (by simp)
                    · rw [if_neg c17] at H
                      exact absurd H (by simp)
                  · rw [if_neg c15] at H
                    exact absurd H (by simp)
                · rw [if_neg c14] at H
                  exact absurd H (by simp)
            · rw [if_neg c11] at H
              exact absurd H (by simp)
          · rw [if_neg c10] at H
            exact absurd H (by simp)
        · rw [if_neg c9] at H
          have c9b0 : decide (x5_1 < (l0.length : Int)) = false := decide_eq_false c9
          clear c9
          obtain rfl := Option.some.inj H
          go_wp2
          go_ret
          exact ⟨qq13, qq1⟩
  · replace c3 := Bool.eq_false_iff.mpr c3
    subst c3
    have H1 : (some false) = some r := by rw [if_neg (show ¬ (false = true) by decide)] at H; exact H
    clear H
    have H := H1
    clear H1
    obtain rfl := Option.some.inj H
    go_enter Try.func29, Try.ntmps29
    go_wp2_with (first | ((with_reducible refine gate_callee (f := 19) rfl ?_); refine goesL_ (some 7) rfl rfl Try.func19 (by kernel_rfl) rfl #[.slice A0 l0.length c0] rfl qq3 ?_; (with_reducible refine (spec_PolyValid.calls _ _ l0 false _ ?side1 ?side2 A2.out).mono ?_); (case side1 => exact qq35); (case side2 => exact HC0.out); rintro e w25 ⟨rfl, hb⟩; refine ⟨_, rfl, ?_⟩; have n0_ := Aside0.mk (below_step qq1 hb); clear HB; have HB := n0_; clear n0_; (try clear hb); (try clear hb2); (try clear hk); (try clear hi)))
    go_ret
    exact ⟨qq13, qq1⟩

end Go.Proofs.Ytgdhgncdpmalcaa.Q
namespace Go.Proofs.Ytgdhgncdpmalcaa.Q
open Go.RowKit Go.Proofs.YtgdhgncdpmalcaaW.PrintWords Go.Proofs.YtgdhgncdpmalcaaW.PrintLast Go.Proofs.YtgdhgncdpmalcaaW.PrintMore
attribute [local go_sem] max2_int min2_int max_two min_two max_three min_three max_four min_four
set_option linter.unusedVariables false
set_option linter.unusedSimpArgs false

/-! ### laws_FnPolyConvex: function 7 -/
mutual
def laws_FnPolyConvex.j0 : Nat → List Int → List Int → Bool → Option (Bool)
  | 0, _, _, _ => none
  | k + 1, x0, x1, x23 => if x23 = true then (some true) else ((spec_DrawPolyConvex.f k x0).bind fun t504 => ((impl_PolyConvex.f t504).bind fun t507 => ((spec_PolyConvex.f k t504).bind fun t508 => (if (t507 != t508) = true then (laws_FnPolyConvex.j1 k x1 t504 t507 t508 true) else (laws_FnPolyConvex.j1 k x1 t504 t507 t508 (!t507))))))
def laws_FnPolyConvex.j1 : Nat → List Int → List (S32) → Bool → Bool → Bool → Option (Bool)
  | 0, _, _, _, _, _ => none
  | k + 1, x1, x5, x6, x7, x36 => if x36 = true then (some (x6 == x7)) else (if (x5.length : Int) = 0 then (none) else ((impl_PolyBack.f k x5).bind fun bt509 => (if 0 ≤ ((x1.length : Int) % (x5.length : Int)) then (if ((x1.length : Int) % (x5.length : Int)) < (x5.length : Int) then (if 0 ≤ (Int.tmod (wrap64 ((x1.length : Int) / (x5.length : Int))) (x5.length : Int)) then (if (Int.tmod (wrap64 ((x1.length : Int) / (x5.length : Int))) (x5.length : Int)) < (x5.length : Int) then ((impl_PolyPlace.f x5 (wrap64 (Int.tdiv (wrap64 (((rd_T32 x5 ((x1.length : Int) % (x5.length : Int))).f0) + ((rd_T32 x5 (Int.tmod (wrap64 ((x1.length : Int) / (x5.length : Int))) (x5.length : Int))).f0))) 2)) (wrap64 (Int.tdiv (wrap64 (((rd_T32 x5 ((x1.length : Int) % (x5.length : Int))).f1) + ((rd_T32 x5 (Int.tmod (wrap64 ((x1.length : Int) / (x5.length : Int))) (x5.length : Int))).f1))) 2))).bind fun bt518 => (if (Int.tmod (wrap64 (((rd_T32 x5 ((x1.length : Int) % (x5.length : Int))).f0) + ((rd_T32 x5 (Int.tmod (wrap64 ((x1.length : Int) / (x5.length : Int))) (x5.length : Int))).f0))) 2) = 0 then (if bt509.2 = true then (if bt518.2 = true then ((impl_PolyConvex.f bt509.1).bind fun t524 => (if t524 = true then ((laws_begunAt.f x5 ((x1.length : Int) % (x5.length : Int))).bind fun t525 => ((impl_PolyConvex.f t525).bind fun t528 => (if t528 = true then (if (Int.tmod (wrap64 (((rd_T32 x5 ((x1.length : Int) % (x5.length : Int))).f1) + ((rd_T32 x5 (Int.tmod (wrap64 ((x1.length : Int) / (x5.length : Int))) (x5.length : Int))).f1))) 2) = 0 then (some (decide (bt518.1 ≥ 0))) else (some true)) else (some false)))) else (some false))) else (some false)) else (some false)) else (if bt509.2 = true then (if bt518.2 = true then ((impl_PolyConvex.f bt509.1).bind fun t529 => (if t529 = true then ((laws_begunAt.f x5 ((x1.length : Int) % (x5.length : Int))).bind fun t530 => ((impl_PolyConvex.f t530).bind fun t533 => (if t533 = true then (some true) else (some false)))) else (some false))) else (some false)) else (some false)))) else (none)) else (none)) else (none)) else (none))))
end
def laws_FnPolyConvex.f (k : Nat) (l0 : List Int) (l1 : List Int) : Option (Bool) := if (l0.length : Int) > 1048576 then (laws_FnPolyConvex.j0 k l0 l1 true) else (laws_FnPolyConvex.j0 k l0 l1 (decide ((l1.length : Int) > 1048576)))
def laws_FnPolyConvex.T11 : Bool × List (List Nat × List Nat) := (true, [([], []), ([], []), ([0, 1], [0, 1]), ([2], [2]), ([3], [3]), ([], []), ([], []), ([5, 6], [5, 6]), ([7], [7]), ([8], [8]), ([4, 9], [4, 9]), ([10], [10]), ([], []), ([], []), ([12, 13], [12, 13]), ([14], [14]), ([15], [15]), ([], []), ([], []), ([17, 18], [17, 18]), ([19], [19]), ([20], [20]), ([16, 21], [16, 21]), ([22], [22]), ([11, 23], [11, 23]), ([], []), ([25, 24, 0, 1, 2, 3, 4, 5, 6, 7, 8, 9, 10, 11, 12, 13, 14, 15, 16, 17, 18, 19, 20, 21, 22, 23, 24, 25], [24, 25])])
def laws_FnPolyConvex.B11 : List Nat := [0, 0, 3, 7, 15, 0, 0, 96, 224, 480, 1023, 2047, 0, 0, 12288, 28672, 61440, 0, 0, 393216, 917504, 1966080, 4190208, 8384512, 16777215, 0, 67108863]
theorem laws_FnPolyConvex.tab11 : rtab .any (opsOf Try.f7 11) = laws_FnPolyConvex.T11 := by kernel_rfl
theorem laws_FnPolyConvex.bits11 : waitsOk laws_FnPolyConvex.T11.2 laws_FnPolyConvex.B11 = true := by kernel_rfl
def laws_FnPolyConvex.T13 : Bool × List (List Nat × List Nat) := (true, [([], []), ([], []), ([0, 1], [0, 1]), ([2], [2]), ([3], [3]), ([], []), ([], []), ([5, 6], [5, 6]), ([7], [7]), ([8], [8]), ([4, 9], [4, 9]), ([10], [10]), ([11], [11]), ([12], [12]), ([13], [13]), ([13], [13]), ([14, 15, 13], [13, 14, 15]), ([16, 13], [13, 16]), ([17, 13], [13, 17]), ([13], [13]), ([13], [13]), ([19, 20, 13], [13, 19, 20]), ([21, 13], [13, 21]), ([22, 13], [13, 22]), ([18, 23, 13], [13, 18, 23]), ([24, 13], [13, 24]), ([25, 13], [13, 25]), ([13, 26], [13, 26]), ([27, 13, 0, 1, 2, 3, 4, 5, 6, 7, 8, 9, 10, 11, 12, 13, 14, 15, 16, 17, 18, 19, 20, 21, 22, 23, 24, 25, 26, 27], [27])])
def laws_FnPolyConvex.B13 : List Nat := [0, 0, 3, 7, 15, 0, 0, 96, 224, 480, 1023, 2047, 4095, 8191, 16383, 16383, 65535, 131071, 262143, 16383, 16383, 1589247, 3686399, 7880703, 16777215, 33554431, 67108863, 134217727, 268435455]
theorem laws_FnPolyConvex.tab13 : rtab .any (opsOf Try.f7 13) = laws_FnPolyConvex.T13 := by kernel_rfl
theorem laws_FnPolyConvex.bits13 : waitsOk laws_FnPolyConvex.T13.2 laws_FnPolyConvex.B13 = true := by kernel_rfl
set_option maxHeartbeats 8000000 in
set_option maxRecDepth 100000 in
theorem laws_FnPolyConvex.calls (k : Nat) (A0 : Option Addr) (c0 : Nat) (l0 : List Int) (A1 : Option Addr) (c1 : Nat) (l1 : List Int) (r : Bool) (w : World) (hr0 : Kd.C (Kd.int .u8) w A0 l0.length l0) (hc0 : l0.length ≤ c0) (hr1 : Kd.C (Kd.int .u8) w A1 l1.length l1) (hc1 : l1.length ≤ c1) (h : laws_FnPolyConvex.f k l0 l1 = some r) (hT0 : r = true) :
    Calls Try.prog 7 #[.slice A0 l0.length c0, .slice A1 l1.length c1] w fun e w' => e = .returned (.bool r) ∧ Below w.heap.size w w' := by
  have hu32 := Try.underlying32
  have hT := Aside0.mk hT0
  clear hT0
  have HR0 := Aside0.mk hr0
  have HC0 := Aside0.mk hc0
  clear hr0 hc0
  have HR1 := Aside0.mk hr1
  have HC1 := Aside0.mk hc1
  clear hr1 hc1
  have HB := Aside0.mk (Below.refl w.heap.size w)
  have H : (if (l0.length : Int) > 1048576 then (laws_FnPolyConvex.j0 k l0 l1 true) else (laws_FnPolyConvex.j0 k l0 l1 (decide ((l1.length : Int) > 1048576)))) = some r := h
  clear h
  have HC3 := Aside0.mk H
  clear H
  go_enter Try.func7, Try.ntmps7
  go_upto_region 1 with (fail)
  go_cut [23] (fun v23 wc => ∃ (kq : Nat) (x23_2 : Bool), v23 = .bool x23_2 ∧ Aside0 (laws_FnPolyConvex.j0 kq l0 l1 x23_2 = some r) ∧ Aside0 (kq ≤ k) ∧ Aside0 (Below w.heap.size w wc))
  case first =>
    have H := HC3.out
    clear HC3
    by_cases c4 : (l0.length : Int) > 1048576
    · rw [if_pos c4] at H
      have c4b0 : decide (1048576 < (l0.length : Int)) = true := decide_eq_true c4
      have c4b1 : decide (1048576 < l0.length) = true := decide_eq_true (by omega)
      clear c4
      (first | rw [c4b0] | (simp only [i64_w, i32_w]; rw [c4b0]) | skip)
      have H' := Aside0.mk H
      clear H
      go_wp2
      go_meet
      case rel => exact ⟨_, (true), qq24, H', ⟨qq46⟩, ⟨qq1⟩⟩
    · rw [if_neg c4] at H
      have c4b0 : decide (1048576 < (l0.length : Int)) = false := decide_eq_false c4
      have c4b1 : decide (1048576 < l0.length) = false := decide_eq_false (by omega)
      clear c4
      (first | rw [c4b0] | (simp only [i64_w, i32_w]; rw [c4b0]) | skip)
      have H' := Aside0.mk H
      clear H
      go_wp2
      go_meet
      case rel => exact ⟨_, (decide ((l1.length : Int) > 1048576)), qq24, H', ⟨qq46⟩, ⟨qq1⟩⟩
  case rest =>
    clear HC3
    try clear c1
    try clear p2
    try clear c4
    try clear c4b0
    try clear c4b1
    obtain ⟨kq, x23_2, rfl, HA, HJ2, HB⟩ := hcut
    cases kq with
    | zero => exact absurd HA.out (by simp [laws_FnPolyConvex.j0])
    | succ kj2 =>
      have H := HA.out
      clear HA
      simp only [laws_FnPolyConvex.j0] at H
      by_cases c5 : x23_2 = true
      · subst c5
        have H1 : (some true) = some r := by rw [if_pos rfl] at H; exact H
        clear H
        have H := H1
        clear H1
        obtain rfl := Option.some.inj H
        go_wp2
        go_ret
        exact ⟨qq13, qq1⟩
      · replace c5 := Bool.eq_false_iff.mpr c5
        subst c5
        have H1 : ((spec_DrawPolyConvex.f kj2 l0).bind fun t504 => ((impl_PolyConvex.f t504).bind fun t507 => ((spec_PolyConvex.f kj2 t504).bind fun t508 => (if (t507 != t508) = true then (laws_FnPolyConvex.j1 kj2 l1 t504 t507 t508 true) else (laws_FnPolyConvex.j1 kj2 l1 t504 t507 t508 (!t507)))))) = some r := by rw [if_neg (show ¬ (false = true) by decide)] at H; exact H
        clear H
        have H := H1
        clear H1
        replace H := Option.bind_eq_some_iff.mp H
        obtain ⟨t504, A60, H⟩ := H
        replace H : ((impl_PolyConvex.f t504).bind fun t507 => ((spec_PolyConvex.f kj2 t504).bind fun t508 => (if (t507 != t508) = true then (laws_FnPolyConvex.j1 kj2 l1 t504 t507 t508 true) else (laws_FnPolyConvex.j1 kj2 l1 t504 t507 t508 (!t507))))) = some r := H
        have A6 := Aside0.mk A60
        clear A60
        replace H := Option.bind_eq_some_iff.mp H
        obtain ⟨t507, A70, H⟩ := H
        replace H : ((spec_PolyConvex.f kj2 t504).bind fun t508 => (if (t507 != t508) = true then (laws_FnPolyConvex.j1 kj2 l1 t504 t507 t508 true) else (laws_FnPolyConvex.j1 kj2 l1 t504 t507 t508 (!t507)))) = some r := H
        have A7 := Aside0.mk A70
        clear A70
        replace H := Option.bind_eq_some_iff.mp H
        obtain ⟨t508, A80, H⟩ := H
        replace H : (if (t507 != t508) = true then (laws_FnPolyConvex.j1 kj2 l1 t504 t507 t508 true) else (laws_FnPolyConvex.j1 kj2 l1 t504 t507 t508 (!t507))) = some r := H
        have A8 := Aside0.mk A80
        clear A80
        have HC9 := Aside0.mk H
        clear H
        go_upto_region 6 with (first | ((with_reducible refine gate_callee (f := 27) rfl ?_); refine goesL_ (some 25) rfl rfl Try.func27 (by kernel_rfl) rfl #[.slice A0 l0.length c0] rfl qq3 ?_; (with_reducible refine (spec_DrawPolyConvex.calls kj2 _ _ l0 t504 _ ?side1 ?side2 A6.out).mono ?_); (case side1 => exact qq49 HR0.out HB.out); (case side2 => exact HC0.out); rintro e w10 ⟨v505, rfl, ho0, hb⟩; refine ⟨_, rfl, ?_⟩; have n0_ := Aside0.mk (Kd.Q_lower ho0 (below_size qq1)); have n1_ := Aside0.mk (below_step qq1 hb); clear HB; have HO506 := n0_; have HB := n1_; clear n0_ n1_; (try clear hb); (try clear hb2); (try clear hk); (try clear hi); (try clear ho0); obtain ⟨Ao11, co11, eo11, _⟩ := Kd.Q_slice HO506.out; subst eo11) | ((with_reducible refine gate_callee (f := 28) rfl ?_); refine goesL_ (some 27) rfl rfl Try.func28 (by kernel_rfl) rfl #[.slice Ao11 t504.length co11] rfl qq3 ?_; (with_reducible refine (impl_PolyConvex.calls _ _ t504 t507 _ ?side1 ?side2 A7.out).mono ?_); (case side1 => exact qq32 HO506.out); (case side2 => exact (Kd.Q_reads' HO506.out).2.1); rintro e w12 ⟨rfl, hb⟩; refine ⟨_, rfl, ?_⟩; have n0_ := Aside0.mk (Kd.Q_below (qq17 HO506.out) hb); have n1_ := Aside0.mk (below_step qq1 hb); clear HO506; clear HB; have HO506 := n0_; have HB := n1_; clear n0_ n1_; (try clear hb); (try clear hb2); (try clear hk); (try clear hi)) | ((with_reducible refine gate_callee (f := 29) rfl ?_); refine goesL_ (some 29) rfl rfl Try.func29 (by kernel_rfl) rfl #[.slice Ao11 t504.length co11] rfl qq3 ?_; (with_reducible refine (spec_PolyConvex.calls kj2 _ _ t504 t508 _ ?side1 ?side2 A8.out).mono ?_); (case side1 => exact qq32 HO506.out); (case side2 => exact (Kd.Q_reads' HO506.out).2.1); rintro e w13 ⟨rfl, hb⟩; refine ⟨_, rfl, ?_⟩; have n0_ := Aside0.mk (Kd.Q_below (qq17 HO506.out) hb); have n1_ := Aside0.mk (below_step qq1 hb); clear HO506; clear HB; have HO506 := n0_; have HB := n1_; clear n0_ n1_; (try clear hb); (try clear hb2); (try clear hk); (try clear hi)))
        (try simp only [Act.put, List.setIfInBounds_toArray, List.set_cons_zero, List.set_cons_succ])
        go_cut [36] (fun v36 wc => ∃ (kq : Nat) (x36_8 : Bool), v36 = .bool x36_8 ∧ Aside0 (laws_FnPolyConvex.j1 kq l1 t504 t507 t508 x36_8 = some r) ∧ Aside0 (kq ≤ kj2) ∧ Aside0 (Kd.Q k32 32 wc w.heap.size (fun _ => True) (.slice Ao11 t504.length co11) t504) ∧ Aside0 (Below w.heap.size w wc))
        case first =>
          have H := HC9.out
          clear HC9
          by_cases c14 : (t507 != t508) = true
          · rw [if_pos c14] at H
            have c14b0 : (t507 != t508) = true := c14
            (try (have c14b1 : decide (t507 = t508) = false := by simpa using c14))
            (try (have c14b2 : (t507 == t508) = false := by simpa using c14))
            (try (have c14b3 : ¬ (t507 = t508) := by simpa using c14))
            clear c14
            (first | rw [c14b0] | (simp only [i64_w, i32_w]; rw [c14b0]) | skip)
            have H' := Aside0.mk H
            clear H
            go_wp2
            go_meet
            case rel => exact ⟨_, (true), qq24, H', ⟨by have := HJ2.out; first | omega | exact Nat.le_refl _⟩, ⟨qq17 HO506.out⟩, ⟨qq1⟩⟩
          · rw [if_neg c14] at H
            have c14b0 : (t507 != t508) = false := by simpa using c14
            (try (have c14b1 : decide (t507 = t508) = true := by simpa using c14))
            (try (have c14b2 : (t507 == t508) = true := by simpa using c14))
            clear c14
            (first | rw [c14b0] | (simp only [i64_w, i32_w]; rw [c14b0]) | skip)
            have H' := Aside0.mk H
            clear H
            go_wp2
            go_meet
            case rel => exact ⟨_, (!t507), qq24, H', ⟨by have := HJ2.out; first | omega | exact Nat.le_refl _⟩, ⟨qq17 HO506.out⟩, ⟨qq1⟩⟩
        case rest =>
          clear HC9
          try clear c1
          try clear c2
          try clear p2
          try clear c4
          try clear c4b0
          try clear c4b1
          try clear c5
          try clear c7
          try clear c14
          try clear c14b0
          try clear c14b1
          try clear c14b2
          try clear p2
          obtain ⟨kq, x36_8, rfl, HA, HJ8, HO_5, HB⟩ := hcut
          cases kq with
          | zero => exact absurd HA.out (by simp [laws_FnPolyConvex.j1])
          | succ kj8 =>
            have H := HA.out
            clear HA
            simp only [laws_FnPolyConvex.j1] at H
            by_cases c15 : x36_8 = true
            · subst c15
              have H1 : (some (t507 == t508)) = some r := by rw [if_pos rfl] at H; exact H
              clear H
              have H := H1
              clear H1
              obtain rfl := Option.some.inj H
              go_wp2
              go_ret
              exact ⟨qq13, qq1⟩
            · replace c15 := Bool.eq_false_iff.mpr c15
              subst c15
              have H1 : (if (t504.length : Int) = 0 then (none) else ((impl_PolyBack.f kj8 t504).bind fun bt509 => (if 0 ≤ ((l1.length : Int) % (t504.length : Int)) then (if ((l1.length : Int) % (t504.length : Int)) < (t504.length : Int) then (if 0 ≤ (Int.tmod (wrap64 ((l1.length : Int) / (t504.length : Int))) (t504.length : Int)) then (if (Int.tmod (wrap64 ((l1.length : Int) / (t504.length : Int))) (t504.length : Int)) < (t504.length : Int) then ((impl_PolyPlace.f t504 (wrap64 (Int.tdiv (wrap64 (((rd_T32 t504 ((l1.length : Int) % (t504.length : Int))).f0) + ((rd_T32 t504 (Int.tmod (wrap64 ((l1.length : Int) / (t504.length : Int))) (t504.length : Int))).f0))) 2)) (wrap64 (Int.tdiv (wrap64 (((rd_T32 t504 ((l1.length : Int) % (t504.length : Int))).f1) + ((rd_T32 t504 (Int.tmod (wrap64 ((l1.length : Int) / (t504.length : Int))) (t504.length : Int))).f1))) 2))).bind fun bt518 => (if (Int.tmod (wrap64 (((rd_T32 t504 ((l1.length : Int) % (t504.length : Int))).f0) + ((rd_T32 t504 (Int.tmod (wrap64 ((l1.length : Int) / (t504.length : Int))) (t504.length : Int))).f0))) 2) = 0 then (if bt509.2 = true then (if bt518.2 = true then ((impl_PolyConvex.f bt509.1).bind fun t524 => (if t524 = true then ((laws_begunAt.f t504 ((l1.length : Int) % (t504.length : Int))).bind fun t525 => ((impl_PolyConvex.f t525).bind fun t528 => (if t528 = true then (if (Int.tmod (wrap64 (((rd_T32 t504 ((l1.length : Int) % (t504.length : Int))).f1) + ((rd_T32 t504 (Int.tmod (wrap64 ((l1.length : Int) / (t504.length : Int))) (t504.length : Int))).f1))) 2) = 0 then (some (decide (bt518.1 ≥ 0))) else (some true)) else (some false)))) else (some false))) else (some false)) else (some false)) else (if bt509.2 = true then (if bt518.2 = true then ((impl_PolyConvex.f bt509.1).bind fun t529 => (if t529 = true then ((laws_begunAt.f t504 ((l1.length : Int) % (t504.length : Int))).bind fun t530 => ((impl_PolyConvex.f t530).bind fun t533 => (if t533 = true then (some true) else (some false)))) else (some false))) else (some false)) else (some false)))) else (none)) else (none)) else (none)) else (none)))) = some r := by rw [if_neg (show ¬ (false = true) by decide)] at H; exact H
              clear H
              have H := H1
              clear H1
              by_cases c16 : (t504.length : Int) = 0
              · rw [if_pos c16] at H
                exact absurd H (by simp)
              · rw [if_neg c16] at H
                have c16b0 : ((t504.length : Int) == 0) = false := beq_eq_false_iff_ne.mpr c16
                have c16b1 : ((t504.length : Int) != 0) = true := bne_iff_ne.mpr c16
                have c16b2 : ¬ (t504 = []) := fun h_ => c16 (by rw [h_]; rfl)
                replace H := Option.bind_eq_some_iff.mp H
                obtain ⟨⟨t509, t510⟩, A170, H⟩ := H
                replace H : (if 0 ≤ ((l1.length : Int) % (t504.length : Int)) then (if ((l1.length : Int) % (t504.length : Int)) < (t504.length : Int) then (if 0 ≤ (Int.tmod (wrap64 ((l1.length : Int) / (t504.length : Int))) (t504.length : Int)) then (if (Int.tmod (wrap64 ((l1.length : Int) / (t504.length : Int))) (t504.length : Int)) < (t504.length : Int) then ((impl_PolyPlace.f t504 (wrap64 (Int.tdiv (wrap64 (((rd_T32 t504 ((l1.length : Int) % (t504.length : Int))).f0) + ((rd_T32 t504 (Int.tmod (wrap64 ((l1.length : Int) / (t504.length : Int))) (t504.length : Int))).f0))) 2)) (wrap64 (Int.tdiv (wrap64 (((rd_T32 t504 ((l1.length : Int) % (t504.length : Int))).f1) + ((rd_T32 t504 (Int.tmod (wrap64 ((l1.length : Int) / (t504.length : Int))) (t504.length : Int))).f1))) 2))).bind fun bt518 => (if (Int.tmod (wrap64 (((rd_T32 t504 ((l1.length : Int) % (t504.length : Int))).f0) + ((rd_T32 t504 (Int.tmod (wrap64 ((l1.length : Int) / (t504.length : Int))) (t504.length : Int))).f0))) 2) = 0 then (if t510 = true then (if bt518.2 = true then ((impl_PolyConvex.f t509).bind fun t524 => (if t524 = true then ((laws_begunAt.f t504 ((l1.length : Int) % (t504.length : Int))).bind fun t525 => ((impl_PolyConvex.f t525).bind fun t528 => (if t528 = true then (if (Int.tmod (wrap64 (((rd_T32 t504 ((l1.length : Int) % (t504.length : Int))).f1) + ((rd_T32 t504 (Int.tmod (wrap64 ((l1.length : Int) / (t504.length : Int))) (t504.length : Int))).f1))) 2) = 0 then (some (decide (bt518.1 ≥ 0))) else (some true)) else (some false)))) else (some false))) else (some false)) else (some false)) else (if t510 = true then (if bt518.2 = true then ((impl_PolyConvex.f t509).bind fun t529 => (if t529 = true then ((laws_begunAt.f t504 ((l1.length : Int) % (t504.length : Int))).bind fun t530 => ((impl_PolyConvex.f t530).bind fun t533 => (if t533 = true then (some true) else (some false)))) else (some false))) else (some false)) else (some false)))) else (none)) else (none)) else (none)) else (none)) = some r := H
                have A17 := Aside0.mk A170
                clear A170
                obtain ⟨ji18, hji18⟩ : ∃ j_ : Int, ((l1.length : Int) % (t504.length : Int)) = j_ := ⟨_, rfl⟩
                replace H : (if 0 ≤ (ji18) then (if (ji18) < (t504.length : Int) then (if 0 ≤ (Int.tmod (wrap64 ((l1.length : Int) / (t504.length : Int))) (t504.length : Int)) then (if (Int.tmod (wrap64 ((l1.length : Int) / (t504.length : Int))) (t504.length : Int)) < (t504.length : Int) then ((impl_PolyPlace.f t504 (wrap64 (Int.tdiv (wrap64 (((rd_T32 t504 (ji18)).f0) + ((rd_T32 t504 (Int.tmod (wrap64 ((l1.length : Int) / (t504.length : Int))) (t504.length : Int))).f0))) 2)) (wrap64 (Int.tdiv (wrap64 (((rd_T32 t504 (ji18)).f1) + ((rd_T32 t504 (Int.tmod (wrap64 ((l1.length : Int) / (t504.length : Int))) (t504.length : Int))).f1))) 2))).bind fun bt518 => (if (Int.tmod (wrap64 (((rd_T32 t504 (ji18)).f0) + ((rd_T32 t504 (Int.tmod (wrap64 ((l1.length : Int) / (t504.length : Int))) (t504.length : Int))).f0))) 2) = 0 then (if t510 = true then (if bt518.2 = true then ((impl_PolyConvex.f t509).bind fun t524 => (if t524 = true then ((laws_begunAt.f t504 (ji18)).bind fun t525 => ((impl_PolyConvex.f t525).bind fun t528 => (if t528 = true then (if (Int.tmod (wrap64 (((rd_T32 t504 (ji18)).f1) + ((rd_T32 t504 (Int.tmod (wrap64 ((l1.length : Int) / (t504.length : Int))) (t504.length : Int))).f1))) 2) = 0 then (some (decide (bt518.1 ≥ 0))) else (some true)) else (some false)))) else (some false))) else (some false)) else (some false)) else (if t510 = true then (if bt518.2 = true then ((impl_PolyConvex.f t509).bind fun t529 => (if t529 = true then ((laws_begunAt.f t504 (ji18)).bind fun t530 => ((impl_PolyConvex.f t530).bind fun t533 => (if t533 = true then (some true) else (some false)))) else (some false))) else (some false)) else (some false)))) else (none)) else (none)) else (none)) else (none)) = some r := by first | (rw [hji18] at H; exact H) | (simp only [hji18] at H ⊢; exact H)
                (try rw [hji18] at A17)
                by_cases c19 : 0 ≤ (ji18)
                · rw [if_pos c19] at H
                  have c19b0 : decide (0 ≤ (ji18)) = true := decide_eq_true c19
                  clear c19
                  by_cases c20 : (ji18) < (t504.length : Int)
                  · rw [if_pos c20] at H
                    have c20b0 : decide ((ji18) < (t504.length : Int)) = true := decide_eq_true c20
                    clear c20
                    obtain ⟨ji21, hji21⟩ : ∃ j_ : Int, (Int.tmod (wrap64 ((l1.length : Int) / (t504.length : Int))) (t504.length : Int)) = j_ := ⟨_, rfl⟩
                    replace H : (if 0 ≤ (ji21) then (if (ji21) < (t504.length : Int) then ((impl_PolyPlace.f t504 (wrap64 (Int.tdiv (wrap64 (((rd_T32 t504 (ji18)).f0) + ((rd_T32 t504 (ji21)).f0))) 2)) (wrap64 (Int.tdiv (wrap64 (((rd_T32 t504 (ji18)).f1) + ((rd_T32 t504 (ji21)).f1))) 2))).bind fun bt518 => (if (Int.tmod (wrap64 (((rd_T32 t504 (ji18)).f0) + ((rd_T32 t504 (ji21)).f0))) 2) = 0 then (if t510 = true then (if bt518.2 = true then ((impl_PolyConvex.f t509).bind fun t524 => (if t524 = true then ((laws_begunAt.f t504 (ji18)).bind fun t525 => ((impl_PolyConvex.f t525).bind fun t528 => (if t528 = true then (if (Int.tmod (wrap64 (((rd_T32 t504 (ji18)).f1) + ((rd_T32 t504 (ji21)).f1))) 2) = 0 then (some (decide (bt518.1 ≥ 0))) else (some true)) else (some false)))) else (some false))) else (some false)) else (some false)) else (if t510 = true then (if bt518.2 = true then ((impl_PolyConvex.f t509).bind fun t529 => (if t529 = true then ((laws_begunAt.f t504 (ji18)).bind fun t530 => ((impl_PolyConvex.f t530).bind fun t533 => (if t533 = true then (some true) else (some false)))) else (some false))) else (some false)) else (some false)))) else (none)) else (none)) = some r := by first | (rw [hji21] at H; exact H) | (simp only [hji21] at H ⊢; exact H)
                    (try rw [hji21] at A17)
                    by_cases c22 : 0 ≤ (ji21)
                    · rw [if_pos c22] at H
                      have c22b0 : decide (0 ≤ (ji21)) = true := decide_eq_true c22
                      clear c22
                      by_cases c23 : (ji21) < (t504.length : Int)
                      · rw [if_pos c23] at H
                        have c23b0 : decide ((ji21) < (t504.length : Int)) = true := decide_eq_true c23
                        clear c23
                        replace H := Option.bind_eq_some_iff.mp H
                        obtain ⟨⟨t518, t519⟩, A240, H⟩ := H
                        replace H : (if (Int.tmod (wrap64 (((rd_T32 t504 (ji18)).f0) + ((rd_T32 t504 (ji21)).f0))) 2) = 0 then (if t510 = true then (if t519 = true then ((impl_PolyConvex.f t509).bind fun t524 => (if t524 = true then ((laws_begunAt.f t504 (ji18)).bind fun t525 => ((impl_PolyConvex.f t525).bind fun t528 => (if t528 = true then (if (Int.tmod (wrap64 (((rd_T32 t504 (ji18)).f1) + ((rd_T32 t504 (ji21)).f1))) 2) = 0 then (some (decide (t518 ≥ 0))) else (some true)) else (some false)))) else (some false))) else (some false)) else (some false)) else (if t510 = true then (if t519 = true then ((impl_PolyConvex.f t509).bind fun t529 => (if t529 = true then ((laws_begunAt.f t504 (ji18)).bind fun t530 => ((impl_PolyConvex.f t530).bind fun t533 => (if t533 = true then (some true) else (some false)))) else (some false))) else (some false)) else (some false))) = some r := H
                        have A24 := Aside0.mk A240
                        clear A240
                        by_cases c25 : (Int.tmod (wrap64 (((rd_T32 t504 (ji18)).f0) + ((rd_T32 t504 (ji21)).f0))) 2) = 0
                        · rw [if_pos c25] at H
                          have c25b0 : ((Int.tmod (wrap64 (((rd_T32 t504 (ji18)).f0) + ((rd_T32 t504 (ji21)).f0))) 2) == 0) = true := beq_iff_eq.mpr c25
                          have c25b1 : ((Int.tmod (wrap64 (((rd_T32 t504 (ji18)).f0) + ((rd_T32 t504 (ji21)).f0))) 2) != 0) = false := bne_eq_false_iff_eq.mpr c25
                          clear c25
                          by_cases c26 : t510 = true
                          · subst c26
                            have H1 : (if t519 = true then ((impl_PolyConvex.f t509).bind fun t524 => (if t524 = true then ((laws_begunAt.f t504 (ji18)).bind fun t525 => ((impl_PolyConvex.f t525).bind fun t528 => (if t528 = true then (if (Int.tmod (wrap64 (((rd_T32 t504 (ji18)).f1) + ((rd_T32 t504 (ji21)).f1))) 2) = 0 then (some (decide (t518 ≥ 0))) else (some true)) else (some false)))) else (some false))) else (some false)) = some r := by rw [if_pos rfl] at H; exact H
                            clear H
                            have H := H1
                            clear H1
                            by_cases c27 : t519 = true
                            · subst c27
                              have H1 : ((impl_PolyConvex.f t509).bind fun t524 => (if t524 = true then ((laws_begunAt.f t504 (ji18)).bind fun t525 => ((impl_PolyConvex.f t525).bind fun t528 => (if t528 = true then (if (Int.tmod (wrap64 (((rd_T32 t504 (ji18)).f1) + ((rd_T32 t504 (ji21)).f1))) 2) = 0 then (some (decide (t518 ≥ 0))) else (some true)) else (some false)))) else (some false))) = some r := by rw [if_pos rfl] at H; exact H
                              clear H
                              have H := H1
                              clear H1
                              replace H := Option.bind_eq_some_iff.mp H
                              obtain ⟨t524, A280, H⟩ := H
                              replace H : (if t524 = true then ((laws_begunAt.f t504 (ji18)).bind fun t525 => ((impl_PolyConvex.f t525).bind fun t528 => (if t528 = true then (if (Int.tmod (wrap64 (((rd_T32 t504 (ji18)).f1) + ((rd_T32 t504 (ji21)).f1))) 2) = 0 then (some (decide (t518 ≥ 0))) else (some true)) else (some false)))) else (some false)) = some r := H
                              have A28 := Aside0.mk A280
                              clear A280
                              by_cases c29 : t524 = true
                              · subst c29
                                have H1 : ((laws_begunAt.f t504 (ji18)).bind fun t525 => ((impl_PolyConvex.f t525).bind fun t528 => (if t528 = true then (if (Int.tmod (wrap64 (((rd_T32 t504 (ji18)).f1) + ((rd_T32 t504 (ji21)).f1))) 2) = 0 then (some (decide (t518 ≥ 0))) else (some true)) else (some false)))) = some r := by rw [if_pos rfl] at H; exact H
                                clear H
                                have H := H1
                                clear H1
                                replace H := Option.bind_eq_some_iff.mp H
                                obtain ⟨t525, A300, H⟩ := H
                                replace H : ((impl_PolyConvex.f t525).bind fun t528 => (if t528 = true then (if (Int.tmod (wrap64 (((rd_T32 t504 (ji18)).f1) + ((rd_T32 t504 (ji21)).f1))) 2) = 0 then (some (decide (t518 ≥ 0))) else (some true)) else (some false))) = some r := H
                                have A30 := Aside0.mk A300
                                clear A300
                                replace H := Option.bind_eq_some_iff.mp H
                                obtain ⟨t528, A310, H⟩ := H
                                replace H : (if t528 = true then (if (Int.tmod (wrap64 (((rd_T32 t504 (ji18)).f1) + ((rd_T32 t504 (ji21)).f1))) 2) = 0 then (some (decide (t518 ≥ 0))) else (some true)) else (some false)) = some r := H
                                have A31 := Aside0.mk A310
                                clear A310
                                by_cases c32 : t528 = true
                                · subst c32
                                  have H1 : (if (Int.tmod (wrap64 (((rd_T32 t504 (ji18)).f1) + ((rd_T32 t504 (ji21)).f1))) 2) = 0 then (some (decide (t518 ≥ 0))) else (some true)) = some r := by rw [if_pos rfl] at H; exact H
                                  clear H
                                  have H := H1
                                  clear H1
                                  by_cases c33 : (Int.tmod (wrap64 (((rd_T32 t504 (ji18)).f1) + ((rd_T32 t504 (ji21)).f1))) 2) = 0
                                  · rw [if_pos c33] at H
                                    have c33b0 : ((Int.tmod (wrap64 (((rd_T32 t504 (ji18)).f1) + ((rd_T32 t504 (ji21)).f1))) 2) == 0) = true := beq_iff_eq.mpr c33
                                    have c33b1 : ((Int.tmod (wrap64 (((rd_T32 t504 (ji18)).f1) + ((rd_T32 t504 (ji21)).f1))) 2) != 0) = false := bne_eq_false_iff_eq.mpr c33
                                    clear c33
                                    obtain rfl := Option.some.inj H
                                    try go_wp2_with (first | ((with_reducible refine gate_callee (f := 14) rfl ?_); refine goesL_ (some 55) rfl rfl Try.func14 (by kernel_rfl) rfl #[.slice Ao11 t504.length co11] rfl qq3 ?_; (with_reducible refine (impl_PolyBack.calls kj8 _ _ t504 t509 true _ ?side1 ?side2 A17.out).mono ?_); (case side1 => exact qq32 HO_5.out); (case side2 => exact qq70); rintro e w34 ⟨v511, rfl, ho0, hb⟩; refine ⟨_, rfl, ?_⟩; have n0_ := Aside0.mk (Kd.Q_elder' (qq17 HO_5.out) (Kd.R_base ho0) hb); have n1_ := Aside0.mk (Kd.R_lower (Kd.R_new' ho0 (Kd.Q_lt (qq17 HO_5.out))) (below_size qq1)); have n2_ := Aside0.mk (below_step qq1 hb); clear HO_5; clear HB; have HO_5 := n0_; have HO512 := n1_; have HB := n2_; clear n0_ n1_ n2_; (try clear hb); (try clear hb2); (try clear hk); (try clear hi); (try clear ho0)))
                                    have n0_ := Aside0.mk (Kd.Q_drew HO_5.out)
                                    have n1_ := Aside0.mk (Kd.R_drew HO512.out)
                                    have n2_ := Aside0.mk (below_drew1 HB.out)
                                    clear HO_5
                                    clear HO512
                                    clear HB
                                    have HO_5 := n0_
                                    have HO512 := n1_
                                    have HB := n2_
                                    clear n0_ n1_ n2_
                                    have p513 : 0 ≤ ((ji18) : Int) := of_decide_eq_true qq10
                                    have q513 : (ji18) < (t504.length : Int) := of_decide_eq_true qq10
                                    obtain ⟨ad513, e513, hx513_0, hx513_1⟩ := at_T32 (Kd.Q_reads' HO_5.out).2.2 (ji18) p513 q513
                                    cases e513
                                    replace p513 := eq_true p513
                                    replace q513 := eq_true q513
                                    have p514 : 0 ≤ ((ji21) : Int) := of_decide_eq_true qq10
                                    have q514 : (ji21) < (t504.length : Int) := of_decide_eq_true qq10
                                    obtain ⟨ad514, e514, hx514_0, hx514_1⟩ := at_T32 (Kd.Q_reads' HO_5.out).2.2 (ji21) p514 q514
                                    obtain rfl : ad513 = ad514 := (by injection e514)
                                    replace p514 := eq_true p514
                                    replace q514 := eq_true q514
                                    have p515 : 0 ≤ ((ji18) : Int) := of_decide_eq_true qq10
                                    have q515 : (ji18) < (t504.length : Int) := of_decide_eq_true qq10
                                    obtain ⟨ad515, e515, hx515_0, hx515_1⟩ := at_T32 (Kd.Q_reads' HO_5.out).2.2 (ji18) p515 q515
                                    obtain rfl : ad513 = ad515 := (by injection e515)
                                    replace p515 := eq_true p515
                                    replace q515 := eq_true q515
                                    have p516 : 0 ≤ ((ji21) : Int) := of_decide_eq_true qq10
                                    have q516 : (ji21) < (t504.length : Int) := of_decide_eq_true qq10
                                    obtain ⟨ad516, e516, hx516_0, hx516_1⟩ := at_T32 (Kd.Q_reads' HO_5.out).2.2 (ji21) p516 q516
                                    obtain rfl : ad513 = ad516 := (by injection e516)
                                    replace p516 := eq_true p516
                                    replace q516 := eq_true q516
                                    refine start_ (n := 27) (S := fun w' => w'.cell? (ad513.add (((ji18)).toNat * 2)) = some (.int .i64 ((rd_T32 t504 (ji18)).f0)) ∧ w'.cell? ⟨(ad513.add (((ji18)).toNat * 2)).block, (ad513.add (((ji18)).toNat * 2)).off + 1, none⟩ = some (.int .i64 ((rd_T32 t504 (ji18)).f1)) ∧ w'.cell? (ad513.add (((ji21)).toNat * 2)) = some (.int .i64 ((rd_T32 t504 (ji21)).f0)) ∧ w'.cell? ⟨(ad513.add (((ji21)).toNat * 2)).block, (ad513.add (((ji21)).toNat * 2)).off + 1, none⟩ = some (.int .i64 ((rd_T32 t504 (ji21)).f1)) ∧ w'.cell? (ad513.add (((ji18)).toNat * 2)) = some (.int .i64 ((rd_T32 t504 (ji18)).f0)) ∧ w'.cell? ⟨(ad513.add (((ji18)).toNat * 2)).block, (ad513.add (((ji18)).toNat * 2)).off + 1, none⟩ = some (.int .i64 ((rd_T32 t504 (ji18)).f1)) ∧ w'.cell? (ad513.add (((ji21)).toNat * 2)) = some (.int .i64 ((rd_T32 t504 (ji21)).f0)) ∧ w'.cell? ⟨(ad513.add (((ji21)).toNat * 2)).block, (ad513.add (((ji21)).toNat * 2)).off + 1, none⟩ = some (.int .i64 ((rd_T32 t504 (ji21)).f1))) (ds := []) #[false, false, false, false, false, false, false, false, false, false, false, false, false, false, false, false, false, false, false, false, false, false, false, false, false, false, false] (by kernel_rfl) rfl rfl ⟨hx513_0, hx513_1, hx514_0, hx514_1, hx515_0, hx515_1, hx516_0, hx516_1⟩ (fun hHeld => ?_); refine with_tabW laws_FnPolyConvex.tab11 laws_FnPolyConvex.bits11 (fun HT_ HW_ => ?_)
                                    generalize w34.drew = w35 at HO_5 HO512 HB hx513_0 hx513_1 hx514_0 hx514_1 hx515_0 hx515_1 hx516_0 hx516_1 hHeld ⊢
                                    refine pure_ (i := 0) (N := some 58) #[true, false, false, false, false, false, false, false, false, false, false, false, false, false, false, false, false, false, false, false, false, false, false, false, false, false, false] rfl rfl (any_of HT_.out (by kernel_rfl)) (fun _ _ _ h => h) (Or.inl ⟨by rfl, pA_⟩) pB_ ?_
                                    refine pure_ (i := 1) (N := some 59) #[true, true, false, false, false, false, false, false, false, false, false, false, false, false, false, false, false, false, false, false, false, false, false, false, false, false, false] rfl rfl (any_of HT_.out (by kernel_rfl)) (fun _ _ _ h => h) (Or.inl ⟨by rfl, pA_⟩) pB_ ?_
                                    refine pure_ (i := 2) (N := some 60) #[true, true, true, false, false, false, false, false, false, false, false, false, false, false, false, false, false, false, false, false, false, false, false, false, false, false, false] rfl rfl (any_of HT_.out (by kernel_rfl)) (fun _ _ _ h => h) (Or.inl ⟨by rfl, pA_⟩) pB_ ?_
                                    refine pure_ (i := 3) (N := some 61) #[true, true, true, true, false, false, false, false, false, false, false, false, false, false, false, false, false, false, false, false, false, false, false, false, false, false, false] rfl rfl (any_of HT_.out (by kernel_rfl)) (fun _ _ _ h => h) (Or.inl ⟨by rfl, pA_⟩) pB_ ?_
                                    refine pure_ (i := 5) (N := some 63) #[true, true, true, true, false, true, false, false, false, false, false, false, false, false, false, false, false, false, false, false, false, false, false, false, false, false, false] rfl rfl (any_of HT_.out (by kernel_rfl)) (fun _ _ _ h => h) (Or.inl ⟨by rfl, pA_⟩) pB_ ?_
                                    refine pure_ (i := 6) (N := some 64) #[true, true, true, true, false, true, true, false, false, false, false, false, false, false, false, false, false, false, false, false, false, false, false, false, false, false, false] rfl rfl (any_of HT_.out (by kernel_rfl)) (fun _ _ _ h => h) (Or.inl ⟨by rfl, pA_⟩) pB_ ?_
                                    refine pure_ (i := 7) (N := some 65) #[true, true, true, true, false, true, true, true, false, false, false, false, false, false, false, false, false, false, false, false, false, false, false, false, false, false, false] rfl rfl (any_of HT_.out (by kernel_rfl)) (fun _ _ _ h => h) (Or.inl ⟨by rfl, pA_⟩) pB_ ?_
                                    refine pure_ (i := 8) (N := some 66) #[true, true, true, true, false, true, true, true, true, false, false, false, false, false, false, false, false, false, false, false, false, false, false, false, false, false, false] rfl rfl (any_of HT_.out (by kernel_rfl)) (fun _ _ _ h => h) (Or.inl ⟨by rfl, pA_⟩) pB_ ?_
                                    refine pure_ (i := 12) (N := some 70) #[true, true, true, true, false, true, true, true, true, false, false, false, true, false, false, false, false, false, false, false, false, false, false, false, false, false, false] rfl rfl (any_of HT_.out (by kernel_rfl)) (fun _ _ _ h => h) (Or.inl ⟨by rfl, pA_⟩) pB_ ?_
                                    refine pure_ (i := 13) (N := some 71) #[true, true, true, true, false, true, true, true, true, false, false, false, true, true, false, false, false, false, false, false, false, false, false, false, false, false, false] rfl rfl (any_of HT_.out (by kernel_rfl)) (fun _ _ _ h => h) (Or.inl ⟨by rfl, pA_⟩) pB_ ?_
                                    refine pure_ (i := 14) (N := some 72) #[true, true, true, true, false, true, true, true, true, false, false, false, true, true, true, false, false, false, false, false, false, false, false, false, false, false, false] rfl rfl (any_of HT_.out (by kernel_rfl)) (fun _ _ _ h => h) (Or.inl ⟨by rfl, pA_⟩) pB_ ?_
                                    refine pure_ (i := 15) (N := some 73) #[true, true, true, true, false, true, true, true, true, false, false, false, true, true, true, true, false, false, false, false, false, false, false, false, false, false, false] rfl rfl (any_of HT_.out (by kernel_rfl)) (fun _ _ _ h => h) (Or.inl ⟨by rfl, pA_⟩) pB_ ?_
                                    refine pure_ (i := 17) (N := some 75) #[true, true, true, true, false, true, true, true, true, false, false, false, true, true, true, true, false, true, false, false, false, false, false, false, false, false, false] rfl rfl (any_of HT_.out (by kernel_rfl)) (fun _ _ _ h => h) (Or.inl ⟨by rfl, pA_⟩) pB_ ?_
                                    refine pure_ (i := 18) (N := some 76) #[true, true, true, true, false, true, true, true, true, false, false, false, true, true, true, true, false, true, true, false, false, false, false, false, false, false, false] rfl rfl (any_of HT_.out (by kernel_rfl)) (fun _ _ _ h => h) (Or.inl ⟨by rfl, pA_⟩) pB_ ?_
                                    refine pure_ (i := 19) (N := some 77) #[true, true, true, true, false, true, true, true, true, false, false, false, true, true, true, true, false, true, true, true, false, false, false, false, false, false, false] rfl rfl (any_of HT_.out (by kernel_rfl)) (fun _ _ _ h => h) (Or.inl ⟨by rfl, pA_⟩) pB_ ?_
                                    refine pure_ (i := 20) (N := some 78) #[true, true, true, true, false, true, true, true, true, false, false, false, true, true, true, true, false, true, true, true, true, false, false, false, false, false, false] rfl rfl (any_of HT_.out (by kernel_rfl)) (fun _ _ _ h => h) (Or.inl ⟨by rfl, pA_⟩) pB_ ?_
                                    refine take_ (i := 4) (N := some 62) (v := ?_) (a' := ?_) #[true, true, true, true, true, true, true, true, true, false, false, false, true, true, true, true, false, true, true, true, true, false, false, false, false, false, false] rfl rfl (take_ofW HT_.out HW_.out (by kernel_rfl)) (fun _ _ _ h => h) (Or.inl ⟨by rfl, ?_⟩) hHeld ?_ ?_
                                    rotate_left
                                    · rintro w' ⟨s0, s1, s2, s3, s4, s5, s6, s7⟩
                                      go_simp
                                      with_reducible rfl
                                    rotate_left
                                    · simp only [Act.put, List.setIfInBounds_toArray, List.set_cons_zero, List.set_cons_succ, i64_w, i32_w]
                                      rfl
                                    refine take_ (i := 9) (N := some 67) (v := ?_) (a' := ?_) #[true, true, true, true, true, true, true, true, true, true, false, false, true, true, true, true, false, true, true, true, true, false, false, false, false, false, false] rfl rfl (take_ofW HT_.out HW_.out (by kernel_rfl)) (fun _ _ _ h => h) (Or.inl ⟨by rfl, ?_⟩) hHeld ?_ ?_
                                    rotate_left
                                    · rintro w' ⟨s0, s1, s2, s3, s4, s5, s6, s7⟩
                                      go_simp
                                      with_reducible rfl
                                    rotate_left
                                    · simp only [Act.put, List.setIfInBounds_toArray, List.set_cons_zero, List.set_cons_succ, i64_w, i32_w]
                                      rfl
                                    refine pure_ (i := 10) (N := some 68) #[true, true, true, true, true, true, true, true, true, true, true, false, true, true, true, true, false, true, true, true, true, false, false, false, false, false, false] rfl rfl (any_of HT_.out (by kernel_rfl)) (fun _ _ _ h => h) (Or.inl ⟨by rfl, pA_⟩) pB_ ?_
                                    refine pure_ (i := 11) (N := some 69) #[true, true, true, true, true, true, true, true, true, true, true, true, true, true, true, true, false, true, true, true, true, false, false, false, false, false, false] rfl rfl (any_of HT_.out (by kernel_rfl)) (fun _ _ _ h => h) (Or.inl ⟨by rfl, pA_⟩) pB_ ?_
                                    refine take_ (i := 16) (N := some 74) (v := ?_) (a' := ?_) #[true, true, true, true, true, true, true, true, true, true, true, true, true, true, true, true, true, true, true, true, true, false, false, false, false, false, false] rfl rfl (take_ofW HT_.out HW_.out (by kernel_rfl)) (fun _ _ _ h => h) (Or.inl ⟨by rfl, ?_⟩) hHeld ?_ ?_
                                    rotate_left
                                    · rintro w' ⟨s0, s1, s2, s3, s4, s5, s6, s7⟩
                                      go_simp
                                      with_reducible rfl
                                    rotate_left
                                    · simp only [Act.put, List.setIfInBounds_toArray, List.set_cons_zero, List.set_cons_succ, i64_w, i32_w]
                                      rfl
                                    refine take_ (i := 21) (N := some 79) (v := ?_) (a' := ?_) #[true, true, true, true, true, true, true, true, true, true, true, true, true, true, true, true, true, true, true, true, true, true, false, false, false, false, false] rfl rfl (take_ofW HT_.out HW_.out (by kernel_rfl)) (fun _ _ _ h => h) (Or.inl ⟨by rfl, ?_⟩) hHeld ?_ ?_
                                    rotate_left
                                    · rintro w' ⟨s0, s1, s2, s3, s4, s5, s6, s7⟩
                                      go_simp
                                      with_reducible rfl
                                    rotate_left
                                    · simp only [Act.put, List.setIfInBounds_toArray, List.set_cons_zero, List.set_cons_succ, i64_w, i32_w]
                                      rfl
                                    refine pure_ (i := 22) (N := some 80) #[true, true, true, true, true, true, true, true, true, true, true, true, true, true, true, true, true, true, true, true, true, true, true, false, false, false, false] rfl rfl (any_of HT_.out (by kernel_rfl)) (fun _ _ _ h => h) (Or.inl ⟨by rfl, pA_⟩) pB_ ?_
                                    refine pure_ (i := 23) (N := some 81) #[true, true, true, true, true, true, true, true, true, true, true, true, true, true, true, true, true, true, true, true, true, true, true, true, false, false, false] rfl rfl (any_of HT_.out (by kernel_rfl)) (fun _ _ _ h => h) (Or.inl ⟨by rfl, pA_⟩) pB_ ?_
                                    refine pure_ (i := 24) (N := some 82) #[true, true, true, true, true, true, true, true, true, true, true, true, true, true, true, true, true, true, true, true, true, true, true, true, true, false, false] rfl rfl (any_of HT_.out (by kernel_rfl)) (fun _ _ _ h => h) (Or.inl ⟨by rfl, pA_⟩) pB_ ?_
                                    refine one_ (i := 25) (N := some 12) #[true, true, true, true, true, true, true, true, true, true, true, true, true, true, true, true, true, true, true, true, true, true, true, true, true, true, false] rfl rfl (one_of HT_.out (by kernel_rfl)) (by decide) (fun K hK => ?_)
                                    refine box_step ?hg (N := 12) ?hd (cs := #[.int .i64 0, .int .i64 0]) (t := 32) ?hr ?_; (case hd => rfl); (case hg => rfl); (case hr => exact qq23)
                                    intro gb517 hg w36 hbox hb
                                    have HS0_ := (hb.cell (World.block_lt_of_cell? _ _ (hHeld.1))).trans (hHeld.1)
                                    have HS1_ := (hb.cell (World.block_lt_of_cell? _ _ (hHeld.2.1))).trans (hHeld.2.1)
                                    have HS2_ := (hb.cell (World.block_lt_of_cell? _ _ (hHeld.2.2.1))).trans (hHeld.2.2.1)
                                    have HS3_ := (hb.cell (World.block_lt_of_cell? _ _ (hHeld.2.2.2.1))).trans (hHeld.2.2.2.1)
                                    have HS4_ := (hb.cell (World.block_lt_of_cell? _ _ (hHeld.2.2.2.2.1))).trans (hHeld.2.2.2.2.1)
                                    have HS5_ := (hb.cell (World.block_lt_of_cell? _ _ (hHeld.2.2.2.2.2.1))).trans (hHeld.2.2.2.2.2.1)
                                    have HS6_ := (hb.cell (World.block_lt_of_cell? _ _ (hHeld.2.2.2.2.2.2.1))).trans (hHeld.2.2.2.2.2.2.1)
                                    have HS7_ := (hb.cell (World.block_lt_of_cell? _ _ (hHeld.2.2.2.2.2.2.2))).trans (hHeld.2.2.2.2.2.2.2)
                                    have n0_ := Aside0.mk (Kd.Q_below (Kd.Q_elderB (qq17 HO_5.out) gb517 (Nat.le_of_eq hg.symm)) hb)
                                    have n1_ := Aside0.mk (Kd.R_below (Kd.R_elderB (qq9 HO512.out) gb517 (Nat.le_of_eq hg.symm)) hb)
                                    have n2_ := Aside0.mk (below_step qq1 hb)
                                    have n3_ := Aside0.mk (hbox)
                                    have n4_ := Aside0.mk ((qq34 : w.heap.size ≤ gb517))
                                    have n5_ := Aside0.mk ((qq34 : w.heap.size ≤ gb517))
                                    clear HO_5
                                    clear HO512
                                    clear HB
                                    have HO_5 := n0_
                                    have HO512 := n1_
                                    have HB := n2_
                                    have BK517 := n3_
                                    have GW517 := n4_
                                    have GE517 := n5_
                                    clear n0_ n1_ n2_ n3_ n4_ n5_
                                    clear hb hbox hg
                                    refine hK.out _ _ ⟨HS0_, HS1_, HS2_, HS3_, HS4_, HS5_, HS6_, HS7_⟩ (fun hHeld => ?_)
                                    clear hK K
                                    refine norm_ (a' := ?_) ?_ ?_
                                    rotate_left
                                    · show Act.put _ (some 12) _ = _
                                      simp only [Act.put, List.setIfInBounds_toArray, List.set_cons_zero, List.set_cons_succ, i64_w, i32_w]
                                      rfl
                                    refine one_ (i := 26) (N := none) #[true, true, true, true, true, true, true, true, true, true, true, true, true, true, true, true, true, true, true, true, true, true, true, true, true, true, true] rfl rfl (one_of HT_.out (by kernel_rfl)) (by decide) (fun K hK => ?_)
                                    have hs37 : w36.cell? ⟨gb517, 0, none⟩ = some (.int .i64 0) := (blk_cell BK517.out 0).trans rfl
                                    have hfs37 := blk_frozen BK517.out 0
                                    have hs38 : w36.cell? ⟨gb517, 1, none⟩ = some (.int .i64 0) := (blk_cell BK517.out 1).trans rfl
                                    have hfs38 := blk_frozen BK517.out 1
                                    refine skip_ (w1 := ?_) (by rfl) rfl ?_ ?_
                                    rotate_left
                                    · go_simp
                                      rfl
                                    refine hK.out _ _ ⟨((cell_far (p := ⟨gb517, _, none⟩) qq2 _).trans (((cell_far (p := ⟨gb517, _, none⟩) qq2 _).trans (hHeld.1)))), ((cell_far (p := ⟨gb517, _, none⟩) qq2 _).trans (((cell_far (p := ⟨gb517, _, none⟩) qq2 _).trans (hHeld.2.1)))), ((cell_far (p := ⟨gb517, _, none⟩) qq2 _).trans (((cell_far (p := ⟨gb517, _, none⟩) qq2 _).trans (hHeld.2.2.1)))), ((cell_far (p := ⟨gb517, _, none⟩) qq2 _).trans (((cell_far (p := ⟨gb517, _, none⟩) qq2 _).trans (hHeld.2.2.2.1)))), ((cell_far (p := ⟨gb517, _, none⟩) qq2 _).trans (((cell_far (p := ⟨gb517, _, none⟩) qq2 _).trans (hHeld.2.2.2.2.1)))), ((cell_far (p := ⟨gb517, _, none⟩) qq2 _).trans (((cell_far (p := ⟨gb517, _, none⟩) qq2 _).trans (hHeld.2.2.2.2.2.1)))), ((cell_far (p := ⟨gb517, _, none⟩) qq2 _).trans (((cell_far (p := ⟨gb517, _, none⟩) qq2 _).trans (hHeld.2.2.2.2.2.2.1)))), ((cell_far (p := ⟨gb517, _, none⟩) qq2 _).trans (((cell_far (p := ⟨gb517, _, none⟩) qq2 _).trans (hHeld.2.2.2.2.2.2.2))))⟩ (fun hHeld => ?_)
                                    clear hK K
                                    refine done_ (done_of HT_.out (by kernel_rfl)) ?_
                                    have hcz39_0 : w36.cell? ⟨gb517, 0, none⟩ = some (.int .i64 0) := (blk_cell BK517.out 0).trans rfl
                                    have hcz39_1 : w36.cell? ⟨gb517, 1, none⟩ = some (.int .i64 0) := (blk_cell BK517.out 1).trans rfl
                                    have hfz39_0 := blk_frozen BK517.out 0
                                    have hfz39_1 := blk_frozen BK517.out 1
                                    try go_wp2_with (first | ((with_reducible refine gate_callee (f := 25) rfl ?_); refine goesL_ (some 86) rfl rfl Try.func25 (by kernel_rfl) rfl #[.slice (some ad513) t504.length co11, .agg #[.int .i64 (wrap64 (Int.tdiv (wrap64 (((rd_T32 t504 (ji18)).f0) + ((rd_T32 t504 (ji21)).f0))) 2)), .int .i64 (wrap64 (Int.tdiv (wrap64 (((rd_T32 t504 (ji18)).f1) + ((rd_T32 t504 (ji21)).f1))) 2))]] rfl qq50 ?_; (with_reducible refine (impl_PolyPlace.calls _ _ t504 (wrap64 (Int.tdiv (wrap64 (((rd_T32 t504 (ji18)).f0) + ((rd_T32 t504 (ji21)).f0))) 2)) (wrap64 (Int.tdiv (wrap64 (((rd_T32 t504 (ji18)).f1) + ((rd_T32 t504 (ji21)).f1))) 2)) t518 true _ ?side1 ?side2 A24.out).mono ?_); (case side1 => exact qq51); (case side2 => exact qq70); rintro e w40 ⟨rfl, hb⟩; refine ⟨_, rfl, ?_⟩; have n0_ := Aside0.mk (Kd.Q_below qq18 hb); have n1_ := Aside0.mk (Kd.R_below qq31 hb); have n2_ := Aside0.mk (blk_below (g := gb517) (o := .cells #[.int .i64 (wrap64 (Int.tdiv (wrap64 (((rd_T32 t504 (ji18)).f0) + ((rd_T32 t504 (ji21)).f0))) 2)), .int .i64 (wrap64 (Int.tdiv (wrap64 (((rd_T32 t504 (ji18)).f1) + ((rd_T32 t504 (ji21)).f1))) 2))] 32 (0, 0)) qq30 hb); have n3_ := Aside0.mk (below_step (qq6 HB.out GE517.out) hb); clear HO_5; clear HO512; clear BK517; clear HB; have HO_5 := n0_; have HO512 := n1_; have BK517 := n2_; have HB := n3_; clear n0_ n1_ n2_ n3_; (try clear hb); (try clear hb2); (try clear hk); (try clear hi)))
                                    have n0_ := Aside0.mk (Kd.Q_drew HO_5.out)
                                    have n1_ := Aside0.mk (Kd.R_drew HO512.out)
                                    have n2_ := Aside0.mk (blk_drew BK517.out)
                                    have n3_ := Aside0.mk (below_drew1 HB.out)
                                    clear HO_5
                                    clear HO512
                                    clear BK517
                                    clear HB
                                    have HO_5 := n0_
                                    have HO512 := n1_
                                    have BK517 := n2_
                                    have HB := n3_
                                    clear n0_ n1_ n2_ n3_
                                    have p520 : 0 ≤ ((ji18) : Int) := of_decide_eq_true qq10
                                    have q520 : (ji18) < (t504.length : Int) := of_decide_eq_true qq10
                                    obtain ⟨ad520, e520, hx520_0, hx520_1⟩ := at_T32 (Kd.Q_reads' HO_5.out).2.2 (ji18) p520 q520
                                    obtain rfl : ad513 = ad520 := (by injection e520)
                                    replace p520 := eq_true p520
                                    replace q520 := eq_true q520
                                    have p521 : 0 ≤ ((ji21) : Int) := of_decide_eq_true qq10
                                    have q521 : (ji21) < (t504.length : Int) := of_decide_eq_true qq10
                                    obtain ⟨ad521, e521, hx521_0, hx521_1⟩ := at_T32 (Kd.Q_reads' HO_5.out).2.2 (ji21) p521 q521
                                    obtain rfl : ad513 = ad521 := (by injection e521)
                                    replace p521 := eq_true p521
                                    replace q521 := eq_true q521
                                    have p522 : 0 ≤ ((ji18) : Int) := of_decide_eq_true qq10
                                    have q522 : (ji18) < (t504.length : Int) := of_decide_eq_true qq10
                                    obtain ⟨ad522, e522, hx522_0, hx522_1⟩ := at_T32 (Kd.Q_reads' HO_5.out).2.2 (ji18) p522 q522
                                    obtain rfl : ad513 = ad522 := (by injection e522)
                                    replace p522 := eq_true p522
                                    replace q522 := eq_true q522
                                    have p523 : 0 ≤ ((ji21) : Int) := of_decide_eq_true qq10
                                    have q523 : (ji21) < (t504.length : Int) := of_decide_eq_true qq10
                                    obtain ⟨ad523, e523, hx523_0, hx523_1⟩ := at_T32 (Kd.Q_reads' HO_5.out).2.2 (ji21) p523 q523
                                    obtain rfl : ad513 = ad523 := (by injection e523)
                                    replace p523 := eq_true p523
                                    replace q523 := eq_true q523
                                    refine start_ (n := 29) (S := fun w' => w'.cell? (ad513.add (((ji18)).toNat * 2)) = some (.int .i64 ((rd_T32 t504 (ji18)).f0)) ∧ w'.cell? ⟨(ad513.add (((ji18)).toNat * 2)).block, (ad513.add (((ji18)).toNat * 2)).off + 1, none⟩ = some (.int .i64 ((rd_T32 t504 (ji18)).f1)) ∧ w'.cell? (ad513.add (((ji21)).toNat * 2)) = some (.int .i64 ((rd_T32 t504 (ji21)).f0)) ∧ w'.cell? ⟨(ad513.add (((ji21)).toNat * 2)).block, (ad513.add (((ji21)).toNat * 2)).off + 1, none⟩ = some (.int .i64 ((rd_T32 t504 (ji21)).f1)) ∧ w'.cell? (ad513.add (((ji18)).toNat * 2)) = some (.int .i64 ((rd_T32 t504 (ji18)).f0)) ∧ w'.cell? ⟨(ad513.add (((ji18)).toNat * 2)).block, (ad513.add (((ji18)).toNat * 2)).off + 1, none⟩ = some (.int .i64 ((rd_T32 t504 (ji18)).f1)) ∧ w'.cell? (ad513.add (((ji21)).toNat * 2)) = some (.int .i64 ((rd_T32 t504 (ji21)).f0)) ∧ w'.cell? ⟨(ad513.add (((ji21)).toNat * 2)).block, (ad513.add (((ji21)).toNat * 2)).off + 1, none⟩ = some (.int .i64 ((rd_T32 t504 (ji21)).f1))) (ds := []) #[false, false, false, false, false, false, false, false, false, false, false, false, false, false, false, false, false, false, false, false, false, false, false, false, false, false, false, false, false] (by kernel_rfl) rfl rfl ⟨hx520_0, hx520_1, hx521_0, hx521_1, hx522_0, hx522_1, hx523_0, hx523_1⟩ (fun hHeld => ?_); refine with_tabW laws_FnPolyConvex.tab13 laws_FnPolyConvex.bits13 (fun HT_ HW_ => ?_)
                                    generalize w40.drew = w41 at HO_5 HO512 BK517 HB hx520_0 hx520_1 hx521_0 hx521_1 hx522_0 hx522_1 hx523_0 hx523_1 hHeld ⊢
                                    refine pure_ (i := 0) (N := some 89) #[true, false, false, false, false, false, false, false, false, false, false, false, false, false, false, false, false, false, false, false, false, false, false, false, false, false, false, false, false] rfl rfl (any_of HT_.out (by kernel_rfl)) (fun _ _ _ h => h) (Or.inl ⟨by rfl, pA_⟩) pB_ ?_
                                    refine pure_ (i := 1) (N := some 90) #[true, true, false, false, false, false, false, false, false, false, false, false, false, false, false, false, false, false, false, false, false, false, false, false, false, false, false, false, false] rfl rfl (any_of HT_.out (by kernel_rfl)) (fun _ _ _ h => h) (Or.inl ⟨by rfl, pA_⟩) pB_ ?_
                                    refine pure_ (i := 2) (N := some 91) #[true, true, true, false, false, false, false, false, false, false, false, false, false, false, false, false, false, false, false, false, false, false, false, false, false, false, false, false, false] rfl rfl (any_of HT_.out (by kernel_rfl)) (fun _ _ _ h => h) (Or.inl ⟨by rfl, pA_⟩) pB_ ?_
                                    refine pure_ (i := 3) (N := some 92) #[true, true, true, true, false, false, false, false, false, false, false, false, false, false, false, false, false, false, false, false, false, false, false, false, false, false, false, false, false] rfl rfl (any_of HT_.out (by kernel_rfl)) (fun _ _ _ h => h) (Or.inl ⟨by rfl, pA_⟩) pB_ ?_
                                    refine pure_ (i := 5) (N := some 94) #[true, true, true, true, false, true, false, false, false, false, false, false, false, false, false, false, false, false, false, false, false, false, false, false, false, false, false, false, false] rfl rfl (any_of HT_.out (by kernel_rfl)) (fun _ _ _ h => h) (Or.inl ⟨by rfl, pA_⟩) pB_ ?_
                                    refine pure_ (i := 6) (N := some 95) #[true, true, true, true, false, true, true, false, false, false, false, false, false, false, false, false, false, false, false, false, false, false, false, false, false, false, false, false, false] rfl rfl (any_of HT_.out (by kernel_rfl)) (fun _ _ _ h => h) (Or.inl ⟨by rfl, pA_⟩) pB_ ?_
                                    refine pure_ (i := 7) (N := some 96) #[true, true, true, true, false, true, true, true, false, false, false, false, false, false, false, false, false, false, false, false, false, false, false, false, false, false, false, false, false] rfl rfl (any_of HT_.out (by kernel_rfl)) (fun _ _ _ h => h) (Or.inl ⟨by rfl, pA_⟩) pB_ ?_
                                    refine pure_ (i := 8) (N := some 97) #[true, true, true, true, false, true, true, true, true, false, false, false, false, false, false, false, false, false, false, false, false, false, false, false, false, false, false, false, false] rfl rfl (any_of HT_.out (by kernel_rfl)) (fun _ _ _ h => h) (Or.inl ⟨by rfl, pA_⟩) pB_ ?_
                                    refine take_ (i := 4) (N := some 93) (v := ?_) (a' := ?_) #[true, true, true, true, true, true, true, true, true, false, false, false, false, false, false, false, false, false, false, false, false, false, false, false, false, false, false, false, false] rfl rfl (take_ofW HT_.out HW_.out (by kernel_rfl)) (fun _ _ _ h => h) (Or.inl ⟨by rfl, ?_⟩) hHeld ?_ ?_
                                    rotate_left
                                    · rintro w' ⟨s0, s1, s2, s3, s4, s5, s6, s7⟩
                                      go_simp
                                      with_reducible rfl
                                    rotate_left
                                    · simp only [Act.put, List.setIfInBounds_toArray, List.set_cons_zero, List.set_cons_succ, i64_w, i32_w]
                                      rfl
                                    refine take_ (i := 9) (N := some 98) (v := ?_) (a' := ?_) #[true, true, true, true, true, true, true, true, true, true, false, false, false, false, false, false, false, false, false, false, false, false, false, false, false, false, false, false, false] rfl rfl (take_ofW HT_.out HW_.out (by kernel_rfl)) (fun _ _ _ h => h) (Or.inl ⟨by rfl, ?_⟩) hHeld ?_ ?_
                                    rotate_left
                                    · rintro w' ⟨s0, s1, s2, s3, s4, s5, s6, s7⟩
                                      go_simp
                                      with_reducible rfl
                                    rotate_left
                                    · simp only [Act.put, List.setIfInBounds_toArray, List.set_cons_zero, List.set_cons_succ, i64_w, i32_w]
                                      rfl
                                    refine pure_ (i := 10) (N := some 99) #[true, true, true, true, true, true, true, true, true, true, true, false, false, false, false, false, false, false, false, false, false, false, false, false, false, false, false, false, false] rfl rfl (any_of HT_.out (by kernel_rfl)) (fun _ _ _ h => h) (Or.inl ⟨by rfl, pA_⟩) pB_ ?_
                                    refine pure_ (i := 11) (N := some 100) #[true, true, true, true, true, true, true, true, true, true, true, true, false, false, false, false, false, false, false, false, false, false, false, false, false, false, false, false, false] rfl rfl (any_of HT_.out (by kernel_rfl)) (fun _ _ _ h => h) (Or.inl ⟨by rfl, pA_⟩) pB_ ?_
                                    refine pure_ (i := 12) (N := some 101) #[true, true, true, true, true, true, true, true, true, true, true, true, true, false, false, false, false, false, false, false, false, false, false, false, false, false, false, false, false] rfl rfl (any_of HT_.out (by kernel_rfl)) (fun _ _ _ h => h) (Or.inl ⟨by rfl, pA_⟩) pB_ ?_
                                    refine pure_ (i := 13) (N := some 102) #[true, true, true, true, true, true, true, true, true, true, true, true, true, true, false, false, false, false, false, false, false, false, false, false, false, false, false, false, false] rfl rfl (any_of HT_.out (by kernel_rfl)) (fun _ _ _ h => h) (Or.inl ⟨by rfl, pA_⟩) pB_ ?_
                                    refine pure_ (i := 14) (N := some 103) #[true, true, true, true, true, true, true, true, true, true, true, true, true, true, true, false, false, false, false, false, false, false, false, false, false, false, false, false, false] rfl rfl (any_of HT_.out (by kernel_rfl)) (fun _ _ _ h => h) (Or.inl ⟨by rfl, pA_⟩) pB_ ?_
                                    refine pure_ (i := 15) (N := some 104) #[true, true, true, true, true, true, true, true, true, true, true, true, true, true, true, true, false, false, false, false, false, false, false, false, false, false, false, false, false] rfl rfl (any_of HT_.out (by kernel_rfl)) (fun _ _ _ h => h) (Or.inl ⟨by rfl, pA_⟩) pB_ ?_
                                    refine pure_ (i := 16) (N := some 105) #[true, true, true, true, true, true, true, true, true, true, true, true, true, true, true, true, true, false, false, false, false, false, false, false, false, false, false, false, false] rfl rfl (any_of HT_.out (by kernel_rfl)) (fun _ _ _ h => h) (Or.inl ⟨by rfl, pA_⟩) pB_ ?_
                                    refine pure_ (i := 17) (N := some 106) #[true, true, true, true, true, true, true, true, true, true, true, true, true, true, true, true, true, true, false, false, false, false, false, false, false, false, false, false, false] rfl rfl (any_of HT_.out (by kernel_rfl)) (fun _ _ _ h => h) (Or.inl ⟨by rfl, pA_⟩) pB_ ?_
                                    refine pure_ (i := 19) (N := some 108) #[true, true, true, true, true, true, true, true, true, true, true, true, true, true, true, true, true, true, false, true, false, false, false, false, false, false, false, false, false] rfl rfl (any_of HT_.out (by kernel_rfl)) (fun _ _ _ h => h) (Or.inl ⟨by rfl, pA_⟩) pB_ ?_
                                    refine pure_ (i := 20) (N := some 109) #[true, true, true, true, true, true, true, true, true, true, true, true, true, true, true, true, true, true, false, true, true, false, false, false, false, false, false, false, false] rfl rfl (any_of HT_.out (by kernel_rfl)) (fun _ _ _ h => h) (Or.inl ⟨by rfl, pA_⟩) pB_ ?_
                                    refine pure_ (i := 21) (N := some 110) #[true, true, true, true, true, true, true, true, true, true, true, true, true, true, true, true, true, true, false, true, true, true, false, false, false, false, false, false, false] rfl rfl (any_of HT_.out (by kernel_rfl)) (fun _ _ _ h => h) (Or.inl ⟨by rfl, pA_⟩) pB_ ?_
                                    refine pure_ (i := 22) (N := some 111) #[true, true, true, true, true, true, true, true, true, true, true, true, true, true, true, true, true, true, false, true, true, true, true, false, false, false, false, false, false] rfl rfl (any_of HT_.out (by kernel_rfl)) (fun _ _ _ h => h) (Or.inl ⟨by rfl, pA_⟩) pB_ ?_
                                    refine take_ (i := 18) (N := some 107) (v := ?_) (a' := ?_) #[true, true, true, true, true, true, true, true, true, true, true, true, true, true, true, true, true, true, true, true, true, true, true, false, false, false, false, false, false] rfl rfl (take_ofW HT_.out HW_.out (by kernel_rfl)) (fun _ _ _ h => h) (Or.inl ⟨by rfl, ?_⟩) hHeld ?_ ?_
                                    rotate_left
                                    · rintro w' ⟨s0, s1, s2, s3, s4, s5, s6, s7⟩
                                      go_simp
                                      with_reducible rfl
                                    rotate_left
                                    · simp only [Act.put, List.setIfInBounds_toArray, List.set_cons_zero, List.set_cons_succ, i64_w, i32_w]
                                      rfl
                                    refine take_ (i := 23) (N := some 112) (v := ?_) (a' := ?_) #[true, true, true, true, true, true, true, true, true, true, true, true, true, true, true, true, true, true, true, true, true, true, true, true, false, false, false, false, false] rfl rfl (take_ofW HT_.out HW_.out (by kernel_rfl)) (fun _ _ _ h => h) (Or.inl ⟨by rfl, ?_⟩) hHeld ?_ ?_
                                    rotate_left
                                    · rintro w' ⟨s0, s1, s2, s3, s4, s5, s6, s7⟩
                                      go_simp
                                      with_reducible rfl
                                    rotate_left
                                    · simp only [Act.put, List.setIfInBounds_toArray, List.set_cons_zero, List.set_cons_succ, i64_w, i32_w]
                                      rfl
                                    refine pure_ (i := 24) (N := some 113) #[true, true, true, true, true, true, true, true, true, true, true, true, true, true, true, true, true, true, true, true, true, true, true, true, true, false, false, false, false] rfl rfl (any_of HT_.out (by kernel_rfl)) (fun _ _ _ h => h) (Or.inl ⟨by rfl, pA_⟩) pB_ ?_
                                    refine pure_ (i := 25) (N := some 114) #[true, true, true, true, true, true, true, true, true, true, true, true, true, true, true, true, true, true, true, true, true, true, true, true, true, true, false, false, false] rfl rfl (any_of HT_.out (by kernel_rfl)) (fun _ _ _ h => h) (Or.inl ⟨by rfl, pA_⟩) pB_ ?_
                                    refine pure_ (i := 26) (N := some 115) #[true, true, true, true, true, true, true, true, true, true, true, true, true, true, true, true, true, true, true, true, true, true, true, true, true, true, true, false, false] rfl rfl (any_of HT_.out (by kernel_rfl)) (fun _ _ _ h => h) (Or.inl ⟨by rfl, pA_⟩) pB_ ?_
                                    refine pure_ (i := 27) (N := some 116) #[true, true, true, true, true, true, true, true, true, true, true, true, true, true, true, true, true, true, true, true, true, true, true, true, true, true, true, true, false] rfl rfl (any_of HT_.out (by kernel_rfl)) (fun _ _ _ h => h) (Or.inl ⟨by rfl, pA_⟩) pB_ ?_
                                    refine pure_ (i := 28) (N := some 15) #[true, true, true, true, true, true, true, true, true, true, true, true, true, true, true, true, true, true, true, true, true, true, true, true, true, true, true, true, true] rfl rfl (any_of HT_.out (by kernel_rfl)) (fun _ _ _ h => h) (Or.inl ⟨by rfl, pA_⟩) pB_ ?_
                                    refine done_ (done_of HT_.out (by kernel_rfl)) ?_
                                    obtain ⟨Ao42, co42, eo42⟩ := Kd.R_slice HO512.out
                                    subst eo42
                                    try go_wp2_with (first | (go_at_call 28; (with_reducible refine (impl_PolyConvex.calls _ _ t509 true _ ?side1 ?side2 A28.out).mono ?_); (case side1 => exact qq33 HO512.out); (case side2 => exact (Kd.R_reads' HO512.out).2.1); rintro e w43 ⟨rfl, hb⟩; have n0_ := Aside0.mk (Kd.Q_below (qq17 HO_5.out) hb); have n1_ := Aside0.mk (Kd.R_below (qq9 HO512.out) hb); have n2_ := Aside0.mk (bbl_ BK517.out hb); have n3_ := Aside0.mk (below_step (qq6 HB.out GE517.out) hb); clear HO_5; clear HO512; clear BK517; clear HB; have HO_5 := n0_; have HO512 := n1_; have BK517 := n2_; have HB := n3_; clear n0_ n1_ n2_ n3_; (try clear hb); (try clear hb2); (try clear hk); (try clear hi)) | (go_at_call 15; (with_reducible refine (laws_begunAt.calls _ _ t504 ji18 t525 _ ?side1 ?side2 A30.out).mono ?_); (case side1 => exact qq32 HO_5.out); (case side2 => exact qq70); rintro e w44 ⟨v526, rfl, ho0, hb⟩; have n0_ := Aside0.mk (Kd.Q_elder' (qq17 HO_5.out) (Kd.R_base ho0) hb); have n1_ := Aside0.mk (Kd.R_elder' (qq9 HO512.out) (Kd.R_base ho0) hb); have n2_ := Aside0.mk (Kd.R_lower (Kd.R_newB (Kd.R_new' (Kd.R_new' ho0 (Kd.Q_lt (qq17 HO_5.out))) (Kd.R_lt (qq9 HO512.out))) (g := gb517) (o := .cells #[.int .i64 (wrap64 (Int.tdiv (wrap64 (((rd_T32 t504 (ji18)).f0) + ((rd_T32 t504 (ji21)).f0))) 2)), .int .i64 (wrap64 (Int.tdiv (wrap64 (((rd_T32 t504 (ji18)).f1) + ((rd_T32 t504 (ji21)).f1))) 2))] 32 (0, 0)) (qq11 BK517.out)) (below_size (qq6 HB.out GE517.out))); have n3_ := Aside0.mk (bbl_ BK517.out hb); have n4_ := Aside0.mk (below_step (qq6 HB.out GE517.out) hb); clear HO_5; clear HO512; clear BK517; clear HB; have HO_5 := n0_; have HO512 := n1_; have HO527 := n2_; have BK517 := n3_; have HB := n4_; clear n0_ n1_ n2_ n3_ n4_; (try clear hb); (try clear hb2); (try clear hk); (try clear hi); (try clear ho0); obtain ⟨Ao45, co45, eo45⟩ := Kd.R_slice HO527.out; subst eo45) | (go_at_call 28; (with_reducible refine (impl_PolyConvex.calls _ _ t525 true _ ?side1 ?side2 A31.out).mono ?_); (case side1 => exact qq33 HO527.out); (case side2 => exact (Kd.R_reads' HO527.out).2.1); rintro e w46 ⟨rfl, hb⟩; have n0_ := Aside0.mk (Kd.Q_below (qq17 HO_5.out) hb); have n1_ := Aside0.mk (Kd.R_below (qq9 HO512.out) hb); have n2_ := Aside0.mk (Kd.R_below (qq9 HO527.out) hb); have n3_ := Aside0.mk (bbl_ BK517.out hb); have n4_ := Aside0.mk (below_step (qq6 HB.out GE517.out) hb); clear HO_5; clear HO512; clear HO527; clear BK517; clear HB; have HO_5 := n0_; have HO512 := n1_; have HO527 := n2_; have BK517 := n3_; have HB := n4_; clear n0_ n1_ n2_ n3_ n4_; (try clear hb); (try clear hb2); (try clear hk); (try clear hi)))
                                    go_ret
                                    exact ⟨qq48, qq6 HB.out GE517.out⟩
                                  · rw [if_neg c33] at H
                                    have c33b0 : ((Int.tmod (wrap64 (((rd_T32 t504 (ji18)).f1) + ((rd_T32 t504 (ji21)).f1))) 2) == 0) = false := beq_eq_false_iff_ne.mpr c33
                                    have c33b1 : ((Int.tmod (wrap64 (((rd_T32 t504 (ji18)).f1) + ((rd_T32 t504 (ji21)).f1))) 2) != 0) = true := bne_iff_ne.mpr c33
                                    obtain rfl := Option.some.inj H
                                    try go_wp2_with (first | ((with_reducible refine gate_callee (f := 14) rfl ?_); refine goesL_ (some 55) rfl rfl Try.func14 (by kernel_rfl) rfl #[.slice Ao11 t504.length co11] rfl qq3 ?_; (with_reducible refine (impl_PolyBack.calls kj8 _ _ t504 t509 true _ ?side1 ?side2 A17.out).mono ?_); (case side1 => exact qq32 HO_5.out); (case side2 => exact qq70); rintro e w47 ⟨v511, rfl, ho0, hb⟩; refine ⟨_, rfl, ?_⟩; have n0_ := Aside0.mk (Kd.Q_elder' (qq17 HO_5.out) (Kd.R_base ho0) hb); have n1_ := Aside0.mk (Kd.R_lower (Kd.R_new' ho0 (Kd.Q_lt (qq17 HO_5.out))) (below_size qq1)); have n2_ := Aside0.mk (below_step qq1 hb); clear HO_5; clear HB; have HO_5 := n0_; have HO512 := n1_; have HB := n2_; clear n0_ n1_ n2_; (try clear hb); (try clear hb2); (try clear hk); (try clear hi); (try clear ho0)))
                                    have n0_ := Aside0.mk (Kd.Q_drew HO_5.out)
                                    have n1_ := Aside0.mk (Kd.R_drew HO512.out)
                                    have n2_ := Aside0.mk (below_drew1 HB.out)
                                    clear HO_5
                                    clear HO512
                                    clear HB
                                    have HO_5 := n0_
                                    have HO512 := n1_
                                    have HB := n2_
                                    clear n0_ n1_ n2_
                                    have p513 : 0 ≤ ((ji18) : Int) := of_decide_eq_true qq10
                                    have q513 : (ji18) < (t504.length : Int) := of_decide_eq_true qq10
                                    obtain ⟨ad513, e513, hx513_0, hx513_1⟩ := at_T32 (Kd.Q_reads' HO_5.out).2.2 (ji18) p513 q513
                                    cases e513
                                    replace p513 := eq_true p513
                                    replace q513 := eq_true q513
                                    have p514 : 0 ≤ ((ji21) : Int) := of_decide_eq_true qq10
                                    have q514 : (ji21) < (t504.length : Int) := of_decide_eq_true qq10
                                    obtain ⟨ad514, e514, hx514_0, hx514_1⟩ := at_T32 (Kd.Q_reads' HO_5.out).2.2 (ji21) p514 q514
                                    obtain rfl : ad513 = ad514 := (by injection e514)
                                    replace p514 := eq_true p514
                                    replace q514 := eq_true q514
                                    have p515 : 0 ≤ ((ji18) : Int) := of_decide_eq_true qq10
                                    have q515 : (ji18) < (t504.length : Int) := of_decide_eq_true qq10
                                    obtain ⟨ad515, e515, hx515_0, hx515_1⟩ := at_T32 (Kd.Q_reads' HO_5.out).2.2 (ji18) p515 q515
                                    obtain rfl : ad513 = ad515 := (by injection e515)
                                    replace p515 := eq_true p515
                                    replace q515 := eq_true q515
                                    have p516 : 0 ≤ ((ji21) : Int) := of_decide_eq_true qq10
                                    have q516 : (ji21) < (t504.length : Int) := of_decide_eq_true qq10
                                    obtain ⟨ad516, e516, hx516_0, hx516_1⟩ := at_T32 (Kd.Q_reads' HO_5.out).2.2 (ji21) p516 q516
                                    obtain rfl : ad513 = ad516 := (by injection e516)
                                    replace p516 := eq_true p516
                                    replace q516 := eq_true q516
                                    refine start_ (n := 27) (S := fun w' => w'.cell? (ad513.add (((ji18)).toNat * 2)) = some (.int .i64 ((rd_T32 t504 (ji18)).f0)) ∧ w'.cell? ⟨(ad513.add (((ji18)).toNat * 2)).block, (ad513.add (((ji18)).toNat * 2)).off + 1, none⟩ = some (.int .i64 ((rd_T32 t504 (ji18)).f1)) ∧ w'.cell? (ad513.add (((ji21)).toNat * 2)) = some (.int .i64 ((rd_T32 t504 (ji21)).f0)) ∧ w'.cell? ⟨(ad513.add (((ji21)).toNat * 2)).block, (ad513.add (((ji21)).toNat * 2)).off + 1, none⟩ = some (.int .i64 ((rd_T32 t504 (ji21)).f1)) ∧ w'.cell? (ad513.add (((ji18)).toNat * 2)) = some (.int .i64 ((rd_T32 t504 (ji18)).f0)) ∧ w'.cell? ⟨(ad513.add (((ji18)).toNat * 2)).block, (ad513.add (((ji18)).toNat * 2)).off + 1, none⟩ = some (.int .i64 ((rd_T32 t504 (ji18)).f1)) ∧ w'.cell? (ad513.add (((ji21)).toNat * 2)) = some (.int .i64 ((rd_T32 t504 (ji21)).f0)) ∧ w'.cell? ⟨(ad513.add (((ji21)).toNat * 2)).block, (ad513.add (((ji21)).toNat * 2)).off + 1, none⟩ = some (.int .i64 ((rd_T32 t504 (ji21)).f1))) (ds := []) #[false, false, false, false, false, false, false, false, false, false, false, false, false, false, false, false, false, false, false, false, false, false, false, false, false, false, false] (by kernel_rfl) rfl rfl ⟨hx513_0, hx513_1, hx514_0, hx514_1, hx515_0, hx515_1, hx516_0, hx516_1⟩ (fun hHeld => ?_); refine with_tabW laws_FnPolyConvex.tab11 laws_FnPolyConvex.bits11 (fun HT_ HW_ => ?_)
                                    generalize w47.drew = w48 at HO_5 HO512 HB hx513_0 hx513_1 hx514_0 hx514_1 hx515_0 hx515_1 hx516_0 hx516_1 hHeld ⊢
                                    refine pure_ (i := 0) (N := some 58) #[true, false, false, false, false, false, false, false, false, false, false, false, false, false, false, false, false, false, false, false, false, false, false, false, false, false, false] rfl rfl (any_of HT_.out (by kernel_rfl)) (fun _ _ _ h => h) (Or.inl ⟨by rfl, pA_⟩) pB_ ?_
                                    refine pure_ (i := 1) (N := some 59) #[true, true, false, false, false, false, false, false, false, false, false, false, false, false, false, false, false, false, false, false, false, false, false, false, false, false, false] rfl rfl (any_of HT_.out (by kernel_rfl)) (fun _ _ _ h => h) (Or.inl ⟨by rfl, pA_⟩) pB_ ?_
                                    refine pure_ (i := 2) (N := some 60) #[true, true, true, false, false, false, false, false, false, false, false, false, false, false, false, false, false, false, false, false, false, false, false, false, false, false, false] rfl rfl (any_of HT_.out (by kernel_rfl)) (fun _ _ _ h => h) (Or.inl ⟨by rfl, pA_⟩) pB_ ?_
                                    refine pure_ (i := 3) (N := some 61) #[true, true, true, true, false, false, false, false, false, false, false, false, false, false, false, false, false, false, false, false, false, false, false, false, false, false, false] rfl rfl (any_of HT_.out (by kernel_rfl)) (fun _ _ _ h => h) (Or.inl ⟨by rfl, pA_⟩) pB_ ?_
                                    refine pure_ (i := 5) (N := some 63) #[true, true, true, true, false, true, false, false, false, false, false, false, false, false, false, false, false, false, false, false, false, false, false, false, false, false, false] rfl rfl (any_of HT_.out (by kernel_rfl)) (fun _ _ _ h => h) (Or.inl ⟨by rfl, pA_⟩) pB_ ?_
                                    refine pure_ (i := 6) (N := some 64) #[true, true, true, true, false, true, true, false, false, false, false, false, false, false, false, false, false, false, false, false, false, false, false, false, false, false, false] rfl rfl (any_of HT_.out (by kernel_rfl)) (fun _ _ _ h => h) (Or.inl ⟨by rfl, pA_⟩) pB_ ?_
                                    refine pure_ (i := 7) (N := some 65) #[true, true, true, true, false, true, true, true, false, false, false, false, false, false, false, false, false, false, false, false, false, false, false, false, false, false, false] rfl rfl (any_of HT_.out (by kernel_rfl)) (fun _ _ _ h => h) (Or.inl ⟨by rfl, pA_⟩) pB_ ?_
                                    refine pure_ (i := 8) (N := some 66) #[true, true, true, true, false, true, true, true, true, false, false, false, false, false, false, false, false, false, false, false, false, false, false, false, false, false, false] rfl rfl (any_of HT_.out (by kernel_rfl)) (fun _ _ _ h => h) (Or.inl ⟨by rfl, pA_⟩) pB_ ?_
                                    refine pure_ (i := 12) (N := some 70) #[true, true, true, true, false, true, true, true, true, false, false, false, true, false, false, false, false, false, false, false, false, false, false, false, false, false, false] rfl rfl (any_of HT_.out (by kernel_rfl)) (fun _ _ _ h => h) (Or.inl ⟨by rfl, pA_⟩) pB_ ?_
                                    refine pure_ (i := 13) (N := some 71) #[true, true, true, true, false, true, true, true, true, false, false, false, true, true, false, false, false, false, false, false, false, false, false, false, false, false, false] rfl rfl (any_of HT_.out (by kernel_rfl)) (fun _ _ _ h => h) (Or.inl ⟨by rfl, pA_⟩) pB_ ?_
                                    refine pure_ (i := 14) (N := some 72) #[true, true, true, true, false, true, true, true, true, false, false, false, true, true, true, false, false, false, false, false, false, false, false, false, false, false, false] rfl rfl (any_of HT_.out (by kernel_rfl)) (fun _ _ _ h => h) (Or.inl ⟨by rfl, pA_⟩) pB_ ?_
                                    refine pure_ (i := 15) (N := some 73) #[true, true, true, true, false, true, true, true, true, false, false, false, true, true, true, true, false, false, false, false, false, false, false, false, false, false, false] rfl rfl (any_of HT_.out (by kernel_rfl)) (fun _ _ _ h => h) (Or.inl ⟨by rfl, pA_⟩) pB_ ?_
                                    refine pure_ (i := 17) (N := some 75) #[true, true, true, true, false, true, true, true, true, false, false, false, true, true, true, true, false, true, false, false, false, false, false, false, false, false, false] rfl rfl (any_of HT_.out (by kernel_rfl)) (fun _ _ _ h => h) (Or.inl ⟨by rfl, pA_⟩) pB_ ?_
                                    refine pure_ (i := 18) (N := some 76) #[true, true, true, true, false, true, true, true, true, false, false, false, true, true, true, true, false, true, true, false, false, false, false, false, false, false, false] rfl rfl (any_of HT_.out (by kernel_rfl)) (fun _ _ _ h => h) (Or.inl ⟨by rfl, pA_⟩) pB_ ?_
                                    refine pure_ (i := 19) (N := some 77) #[true, true, true, true, false, true, true, true, true, false, false, false, true, true, true, true, false, true, true, true, false, false, false, false, false, false, false] rfl rfl (any_of HT_.out (by kernel_rfl)) (fun _ _ _ h => h) (Or.inl ⟨by rfl, pA_⟩) pB_ ?_
                                    refine pure_ (i := 20) (N := some 78) #[true, true, true, true, false, true, true, true, true, false, false, false, true, true, true, true, false, true, true, true, true, false, false, false, false, false, false] rfl rfl (any_of HT_.out (by kernel_rfl)) (fun _ _ _ h => h) (Or.inl ⟨by rfl, pA_⟩) pB_ ?_
                                    refine take_ (i := 4) (N := some 62) (v := ?_) (a' := ?_) #[true, true, true, true, true, true, true, true, true, false, false, false, true, true, true, true, false, true, true, true, true, false, false, false, false, false, false] rfl rfl (take_ofW HT_.out HW_.out (by kernel_rfl)) (fun _ _ _ h => h) (Or.inl ⟨by rfl, ?_⟩) hHeld ?_ ?_
                                    rotate_left
                                    · rintro w' ⟨s0, s1, s2, s3, s4, s5, s6, s7⟩
                                      go_simp
                                      with_reducible rfl
                                    rotate_left
                                    · simp only [Act.put, List.setIfInBounds_toArray, List.set_cons_zero, List.set_cons_succ, i64_w, i32_w]
                                      rfl
                                    refine take_ (i := 9) (N := some 67) (v := ?_) (a' := ?_) #[true, true, true, true, true, true, true, true, true, true, false, false, true, true, true, true, false, true, true, true, true, false, false, false, false, false, false] rfl rfl (take_ofW HT_.out HW_.out (by kernel_rfl)) (fun _ _ _ h => h) (Or.inl ⟨by rfl, ?_⟩) hHeld ?_ ?_
                                    rotate_left
                                    · rintro w' ⟨s0, s1, s2, s3, s4, s5, s6, s7⟩
                                      go_simp
                                      with_reducible rfl
                                    rotate_left
                                    · simp only [Act.put, List.setIfInBounds_toArray, List.set_cons_zero, List.set_cons_succ, i64_w, i32_w]
                                      rfl
                                    refine pure_ (i := 10) (N := some 68) #[true, true, true, true, true, true, true, true, true, true, true, false, true, true, true, true, false, true, true, true, true, false, false, false, false, false, false] rfl rfl (any_of HT_.out (by kernel_rfl)) (fun _ _ _ h => h) (Or.inl ⟨by rfl, pA_⟩) pB_ ?_
                                    refine pure_ (i := 11) (N := some 69) #[true, true, true, true, true, true, true, true, true, true, true, true, true, true, true, true, false, true, true, true, true, false, false, false, false, false, false] rfl rfl (any_of HT_.out (by kernel_rfl)) (fun _ _ _ h => h) (Or.inl ⟨by rfl, pA_⟩) pB_ ?_
                                    refine take_ (i := 16) (N := some 74) (v := ?_) (a' := ?_) #[true, true, true, true, true, true, true, true, true, true, true, true, true, true, true, true, true, true, true, true, true, false, false, false, false, false, false] rfl rfl (take_ofW HT_.out HW_.out (by kernel_rfl)) (fun _ _ _ h => h) (Or.inl ⟨by rfl, ?_⟩) hHeld ?_ ?_
                                    rotate_left
                                    · rintro w' ⟨s0, s1, s2, s3, s4, s5, s6, s7⟩
                                      go_simp
                                      with_reducible rfl
                                    rotate_left
                                    · simp only [Act.put, List.setIfInBounds_toArray, List.set_cons_zero, List.set_cons_succ, i64_w, i32_w]
                                      rfl
                                    refine take_ (i := 21) (N := some 79) (v := ?_) (a' := ?_) #[true, true, true, true, true, true, true, true, true, true, true, true, true, true, true, true, true, true, true, true, true, true, false, false, false, false, false] rfl rfl (take_ofW HT_.out HW_.out (by kernel_rfl)) (fun _ _ _ h => h) (Or.inl ⟨by rfl, ?_⟩) hHeld ?_ ?_
                                    rotate_left
                                    · rintro w' ⟨s0, s1, s2, s3, s4, s5, s6, s7⟩
                                      go_simp
                                      with_reducible rfl
                                    rotate_left
                                    · simp only [Act.put, List.setIfInBounds_toArray, List.set_cons_zero, List.set_cons_succ, i64_w, i32_w]
                                      rfl
                                    refine pure_ (i := 22) (N := some 80) #[true, true, true, true, true, true, true, true, true, true, true, true, true, true, true, true, true, true, true, true, true, true, true, false, false, false, false] rfl rfl (any_of HT_.out (by kernel_rfl)) (fun _ _ _ h => h) (Or.inl ⟨by rfl, pA_⟩) pB_ ?_
                                    refine pure_ (i := 23) (N := some 81) #[true, true, true, true, true, true, true, true, true, true, true, true, true, true, true, true, true, true, true, true, true, true, true, true, false, false, false] rfl rfl (any_of HT_.out (by kernel_rfl)) (fun _ _ _ h => h) (Or.inl ⟨by rfl, pA_⟩) pB_ ?_
                                    refine pure_ (i := 24) (N := some 82) #[true, true, true, true, true, true, true, true, true, true, true, true, true, true, true, true, true, true, true, true, true, true, true, true, true, false, false] rfl rfl (any_of HT_.out (by kernel_rfl)) (fun _ _ _ h => h) (Or.inl ⟨by rfl, pA_⟩) pB_ ?_
                                    refine one_ (i := 25) (N := some 12) #[true, true, true, true, true, true, true, true, true, true, true, true, true, true, true, true, true, true, true, true, true, true, true, true, true, true, false] rfl rfl (one_of HT_.out (by kernel_rfl)) (by decide) (fun K hK => ?_)
                                    refine box_step ?hg (N := 12) ?hd (cs := #[.int .i64 0, .int .i64 0]) (t := 32) ?hr ?_; (case hd => rfl); (case hg => rfl); (case hr => exact qq23)
                                    intro gb517 hg w49 hbox hb
                                    have HS0_ := (hb.cell (World.block_lt_of_cell? _ _ (hHeld.1))).trans (hHeld.1)
                                    have HS1_ := (hb.cell (World.block_lt_of_cell? _ _ (hHeld.2.1))).trans (hHeld.2.1)
                                    have HS2_ := (hb.cell (World.block_lt_of_cell? _ _ (hHeld.2.2.1))).trans (hHeld.2.2.1)
                                    have HS3_ := (hb.cell (World.block_lt_of_cell? _ _ (hHeld.2.2.2.1))).trans (hHeld.2.2.2.1)
                                    have HS4_ := (hb.cell (World.block_lt_of_cell? _ _ (hHeld.2.2.2.2.1))).trans (hHeld.2.2.2.2.1)
                                    have HS5_ := (hb.cell (World.block_lt_of_cell? _ _ (hHeld.2.2.2.2.2.1))).trans (hHeld.2.2.2.2.2.1)
                                    have HS6_ := (hb.cell (World.block_lt_of_cell? _ _ (hHeld.2.2.2.2.2.2.1))).trans (hHeld.2.2.2.2.2.2.1)
                                    have HS7_ := (hb.cell (World.block_lt_of_cell? _ _ (hHeld.2.2.2.2.2.2.2))).trans (hHeld.2.2.2.2.2.2.2)
                                    have n0_ := Aside0.mk (Kd.Q_below (Kd.Q_elderB (qq17 HO_5.out) gb517 (Nat.le_of_eq hg.symm)) hb)
                                    have n1_ := Aside0.mk (Kd.R_below (Kd.R_elderB (qq9 HO512.out) gb517 (Nat.le_of_eq hg.symm)) hb)
                                    have n2_ := Aside0.mk (below_step qq1 hb)
                                    have n3_ := Aside0.mk (hbox)
                                    have n4_ := Aside0.mk ((qq34 : w.heap.size ≤ gb517))
                                    have n5_ := Aside0.mk ((qq34 : w.heap.size ≤ gb517))
                                    clear HO_5
                                    clear HO512
                                    clear HB
                                    have HO_5 := n0_
                                    have HO512 := n1_
                                    have HB := n2_
                                    have BK517 := n3_
                                    have GW517 := n4_
                                    have GE517 := n5_
                                    clear n0_ n1_ n2_ n3_ n4_ n5_
                                    clear hb hbox hg
                                    refine hK.out _ _ ⟨HS0_, HS1_, HS2_, HS3_, HS4_, HS5_, HS6_, HS7_⟩ (fun hHeld => ?_)
                                    clear hK K
                                    refine norm_ (a' := ?_) ?_ ?_
                                    rotate_left
                                    · show Act.put _ (some 12) _ = _
                                      simp only [Act.put, List.setIfInBounds_toArray, List.set_cons_zero, List.set_cons_succ, i64_w, i32_w]
                                      rfl
                                    refine one_ (i := 26) (N := none) #[true, true, true, true, true, true, true, true, true, true, true, true, true, true, true, true, true, true, true, true, true, true, true, true, true, true, true] rfl rfl (one_of HT_.out (by kernel_rfl)) (by decide) (fun K hK => ?_)
                                    have hs50 : w49.cell? ⟨gb517, 0, none⟩ = some (.int .i64 0) := (blk_cell BK517.out 0).trans rfl
                                    have hfs50 := blk_frozen BK517.out 0
                                    have hs51 : w49.cell? ⟨gb517, 1, none⟩ = some (.int .i64 0) := (blk_cell BK517.out 1).trans rfl
                                    have hfs51 := blk_frozen BK517.out 1
                                    refine skip_ (w1 := ?_) (by rfl) rfl ?_ ?_
                                    rotate_left
                                    · go_simp
                                      rfl
                                    refine hK.out _ _ ⟨((cell_far (p := ⟨gb517, _, none⟩) qq2 _).trans (((cell_far (p := ⟨gb517, _, none⟩) qq2 _).trans (hHeld.1)))), ((cell_far (p := ⟨gb517, _, none⟩) qq2 _).trans (((cell_far (p := ⟨gb517, _, none⟩) qq2 _).trans (hHeld.2.1)))), ((cell_far (p := ⟨gb517, _, none⟩) qq2 _).trans (((cell_far (p := ⟨gb517, _, none⟩) qq2 _).trans (hHeld.2.2.1)))), ((cell_far (p := ⟨gb517, _, none⟩) qq2 _).trans (((cell_far (p := ⟨gb517, _, none⟩) qq2 _).trans (hHeld.2.2.2.1)))), ((cell_far (p := ⟨gb517, _, none⟩) qq2 _).trans (((cell_far (p := ⟨gb517, _, none⟩) qq2 _).trans (hHeld.2.2.2.2.1)))), ((cell_far (p := ⟨gb517, _, none⟩) qq2 _).trans (((cell_far (p := ⟨gb517, _, none⟩) qq2 _).trans (hHeld.2.2.2.2.2.1)))), ((cell_far (p := ⟨gb517, _, none⟩) qq2 _).trans (((cell_far (p := ⟨gb517, _, none⟩) qq2 _).trans (hHeld.2.2.2.2.2.2.1)))), ((cell_far (p := ⟨gb517, _, none⟩) qq2 _).trans (((cell_far (p := ⟨gb517, _, none⟩) qq2 _).trans (hHeld.2.2.2.2.2.2.2))))⟩ (fun hHeld => ?_)
                                    clear hK K
                                    refine done_ (done_of HT_.out (by kernel_rfl)) ?_
                                    have hcz52_0 : w49.cell? ⟨gb517, 0, none⟩ = some (.int .i64 0) := (blk_cell BK517.out 0).trans rfl
                                    have hcz52_1 : w49.cell? ⟨gb517, 1, none⟩ = some (.int .i64 0) := (blk_cell BK517.out 1).trans rfl
                                    have hfz52_0 := blk_frozen BK517.out 0
                                    have hfz52_1 := blk_frozen BK517.out 1
                                    try go_wp2_with (first | ((with_reducible refine gate_callee (f := 25) rfl ?_); refine goesL_ (some 86) rfl rfl Try.func25 (by kernel_rfl) rfl #[.slice (some ad513) t504.length co11, .agg #[.int .i64 (wrap64 (Int.tdiv (wrap64 (((rd_T32 t504 (ji18)).f0) + ((rd_T32 t504 (ji21)).f0))) 2)), .int .i64 (wrap64 (Int.tdiv (wrap64 (((rd_T32 t504 (ji18)).f1) + ((rd_T32 t504 (ji21)).f1))) 2))]] rfl qq50 ?_; (with_reducible refine (impl_PolyPlace.calls _ _ t504 (wrap64 (Int.tdiv (wrap64 (((rd_T32 t504 (ji18)).f0) + ((rd_T32 t504 (ji21)).f0))) 2)) (wrap64 (Int.tdiv (wrap64 (((rd_T32 t504 (ji18)).f1) + ((rd_T32 t504 (ji21)).f1))) 2)) t518 true _ ?side1 ?side2 A24.out).mono ?_); (case side1 => exact qq51); (case side2 => exact qq70); rintro e w53 ⟨rfl, hb⟩; refine ⟨_, rfl, ?_⟩; have n0_ := Aside0.mk (Kd.Q_below qq18 hb); have n1_ := Aside0.mk (Kd.R_below qq31 hb); have n2_ := Aside0.mk (blk_below (g := gb517) (o := .cells #[.int .i64 (wrap64 (Int.tdiv (wrap64 (((rd_T32 t504 (ji18)).f0) + ((rd_T32 t504 (ji21)).f0))) 2)), .int .i64 (wrap64 (Int.tdiv (wrap64 (((rd_T32 t504 (ji18)).f1) + ((rd_T32 t504 (ji21)).f1))) 2))] 32 (0, 0)) qq30 hb); have n3_ := Aside0.mk (below_step (qq6 HB.out GE517.out) hb); clear HO_5; clear HO512; clear BK517; clear HB; have HO_5 := n0_; have HO512 := n1_; have BK517 := n2_; have HB := n3_; clear n0_ n1_ n2_ n3_; (try clear hb); (try clear hb2); (try clear hk); (try clear hi)))
                                    have n0_ := Aside0.mk (Kd.Q_drew HO_5.out)
                                    have n1_ := Aside0.mk (Kd.R_drew HO512.out)
                                    have n2_ := Aside0.mk (blk_drew BK517.out)
                                    have n3_ := Aside0.mk (below_drew1 HB.out)
                                    clear HO_5
                                    clear HO512
                                    clear BK517
                                    clear HB
                                    have HO_5 := n0_
                                    have HO512 := n1_
                                    have BK517 := n2_
                                    have HB := n3_
                                    clear n0_ n1_ n2_ n3_
                                    have p520 : 0 ≤ ((ji18) : Int) := of_decide_eq_true qq10
                                    have q520 : (ji18) < (t504.length : Int) := of_decide_eq_true qq10
                                    obtain ⟨ad520, e520, hx520_0, hx520_1⟩ := at_T32 (Kd.Q_reads' HO_5.out).2.2 (ji18) p520 q520
                                    obtain rfl : ad513 = ad520 := (by injection e520)
                                    replace p520 := eq_true p520
                                    replace q520 := eq_true q520
                                    have p521 : 0 ≤ ((ji21) : Int) := of_decide_eq_true qq10
                                    have q521 : (ji21) < (t504.length : Int) := of_decide_eq_true qq10
                                    obtain ⟨ad521, e521, hx521_0, hx521_1⟩ := at_T32 (Kd.Q_reads' HO_5.out).2.2 (ji21) p521 q521
                                    obtain rfl : ad513 = ad521 := (by injection e521)
                                    replace p521 := eq_true p521
                                    replace q521 := eq_true q521
                                    have p522 : 0 ≤ ((ji18) : Int) := of_decide_eq_true qq10
                                    have q522 : (ji18) < (t504.length : Int) := of_decide_eq_true qq10
                                    obtain ⟨ad522, e522, hx522_0, hx522_1⟩ := at_T32 (Kd.Q_reads' HO_5.out).2.2 (ji18) p522 q522
                                    obtain rfl : ad513 = ad522 := (by injection e522)
                                    replace p522 := eq_true p522
                                    replace q522 := eq_true q522
                                    have p523 : 0 ≤ ((ji21) : Int) := of_decide_eq_true qq10
                                    have q523 : (ji21) < (t504.length : Int) := of_decide_eq_true qq10
                                    obtain ⟨ad523, e523, hx523_0, hx523_1⟩ := at_T32 (Kd.Q_reads' HO_5.out).2.2 (ji21) p523 q523
                                    obtain rfl : ad513 = ad523 := (by injection e523)
                                    replace p523 := eq_true p523
                                    replace q523 := eq_true q523
                                    refine start_ (n := 29) (S := fun w' => w'.cell? (ad513.add (((ji18)).toNat * 2)) = some (.int .i64 ((rd_T32 t504 (ji18)).f0)) ∧ w'.cell? ⟨(ad513.add (((ji18)).toNat * 2)).block, (ad513.add (((ji18)).toNat * 2)).off + 1, none⟩ = some (.int .i64 ((rd_T32 t504 (ji18)).f1)) ∧ w'.cell? (ad513.add (((ji21)).toNat * 2)) = some (.int .i64 ((rd_T32 t504 (ji21)).f0)) ∧ w'.cell? ⟨(ad513.add (((ji21)).toNat * 2)).block, (ad513.add (((ji21)).toNat * 2)).off + 1, none⟩ = some (.int .i64 ((rd_T32 t504 (ji21)).f1)) ∧ w'.cell? (ad513.add (((ji18)).toNat * 2)) = some (.int .i64 ((rd_T32 t504 (ji18)).f0)) ∧ w'.cell? ⟨(ad513.add (((ji18)).toNat * 2)).block, (ad513.add (((ji18)).toNat * 2)).off + 1, none⟩ = some (.int .i64 ((rd_T32 t504 (ji18)).f1)) ∧ w'.cell? (ad513.add (((ji21)).toNat * 2)) = some (.int .i64 ((rd_T32 t504 (ji21)).f0)) ∧ w'.cell? ⟨(ad513.add (((ji21)).toNat * 2)).block, (ad513.add (((ji21)).toNat * 2)).off + 1, none⟩ = some (.int .i64 ((rd_T32 t504 (ji21)).f1))) (ds := []) #[false, false, false, false, false, false, false, false, false, false, false, false, false, false, false, false, false, false, false, false, false, false, false, false, false, false, false, false, false] (by kernel_rfl) rfl rfl ⟨hx520_0, hx520_1, hx521_0, hx521_1, hx522_0, hx522_1, hx523_0, hx523_1⟩ (fun hHeld => ?_); refine with_tabW laws_FnPolyConvex.tab13 laws_FnPolyConvex.bits13 (fun HT_ HW_ => ?_)
                                    generalize w53.drew = w54 at HO_5 HO512 BK517 HB hx520_0 hx520_1 hx521_0 hx521_1 hx522_0 hx522_1 hx523_0 hx523_1 hHeld ⊢
                                    refine pure_ (i := 0) (N := some 89) #[true, false, false, false, false, false, false, false, false, false, false, false, false, false, false, false, false, false, false, false, false, false, false, false, false, false, false, false, false] rfl rfl (any_of HT_.out (by kernel_rfl)) (fun _ _ _ h => h) (Or.inl ⟨by rfl, pA_⟩) pB_ ?_
                                    refine pure_ (i := 1) (N := some 90) #[true, true, false, false, false, false, false, false, false, false, false, false, false, false, false, false, false, false, false, false, false, false, false, false, false, false, false, false, false] rfl rfl (any_of HT_.out (by kernel_rfl)) (fun _ _ _ h => h) (Or.inl ⟨by rfl, pA_⟩) pB_ ?_
                                    refine pure_ (i := 2) (N := some 91) #[true, true, true, false, false, false, false, false, false, false, false, false, false, false, false, false, false, false, false, false, false, false, false, false, false, false, false, false, false] rfl rfl (any_of HT_.out (by kernel_rfl)) (fun _ _ _ h => h) (Or.inl ⟨by rfl, pA_⟩) pB_ ?_
                                    refine pure_ (i := 3) (N := some 92) #[true, true, true, true, false, false, false, false, false, false, false, false, false, false, false, false, false, false, false, false, false, false, false, false, false, false, false, false, false] rfl rfl (any_of HT_.out (by kernel_rfl)) (fun _ _ _ h => h) (Or.inl ⟨by rfl, pA_⟩) pB_ ?_
                                    refine pure_ (i := 5) (N := some 94) #[true, true, true, true, false, true, false, false, false, false, false, false, false, false, false, false, false, false, false, false, false, false, false, false, false, false, false, false, false] rfl rfl (any_of HT_.out (by kernel_rfl)) (fun _ _ _ h => h) (Or.inl ⟨by rfl, pA_⟩) pB_ ?_
                                    refine pure_ (i := 6) (N := some 95) #[true, true, true, true, false, true, true, false, false, false, false, false, false, false, false, false, false, false, false, false, false, false, false, false, false, false, false, false, false] rfl rfl (any_of HT_.out (by kernel_rfl)) (fun _ _ _ h => h) (Or.inl ⟨by rfl, pA_⟩) pB_ ?_
                                    refine pure_ (i := 7) (N := some 96) #[true, true, true, true, false, true, true, true, false, false, false, false, false, false, false, false, false, false, false, false, false, false, false, false, false, false, false, false, false] rfl rfl (any_of HT_.out (by kernel_rfl)) (fun _ _ _ h => h) (Or.inl ⟨by rfl, pA_⟩) pB_ ?_
                                    refine pure_ (i := 8) (N := some 97) #[true, true, true, true, false, true, true, true, true, false, false, false, false, false, false, false, false, false, false, false, false, false, false, false, false, false, false, false, false] rfl rfl (any_of HT_.out (by kernel_rfl)) (fun _ _ _ h => h) (Or.inl ⟨by rfl, pA_⟩) pB_ ?_
                                    refine take_ (i := 4) (N := some 93) (v := ?_) (a' := ?_) #[true, true, true, true, true, true, true, true, true, false, false, false, false, false, false, false, false, false, false, false, false, false, false, false, false, false, false, false, false] rfl rfl (take_ofW HT_.out HW_.out (by kernel_rfl)) (fun _ _ _ h => h) (Or.inl ⟨by rfl, ?_⟩) hHeld ?_ ?_
                                    rotate_left
                                    · rintro w' ⟨s0, s1, s2, s3, s4, s5, s6, s7⟩
                                      go_simp
                                      with_reducible rfl
                                    rotate_left
                                    · simp only [Act.put, List.setIfInBounds_toArray, List.set_cons_zero, List.set_cons_succ, i64_w, i32_w]
                                      rfl
                                    refine take_ (i := 9) (N := some 98) (v := ?_) (a' := ?_) #[true, true, true, true, true, true, true, true, true, true, false, false, false, false, false, false, false, false, false, false, false, false, false, false, false, false, false, false, false] rfl rfl (take_ofW HT_.out HW_.out (by kernel_rfl)) (fun _ _ _ h => h) (Or.inl ⟨by rfl, ?_⟩) hHeld ?_ ?_
                                    rotate_left
                                    · rintro w' ⟨s0, s1, s2, s3, s4, s5, s6, s7⟩
                                      go_simp
                                      with_reducible rfl
                                    rotate_left
                                    · simp only [Act.put, List.setIfInBounds_toArray, List.set_cons_zero, List.set_cons_succ, i64_w, i32_w]
                                      rfl
                                    refine pure_ (i := 10) (N := some 99) #[true, true, true, true, true, true, true, true, true, true, true, false, false, false, false, false, false, false, false, false, false, false, false, false, false, false, false, false, false] rfl rfl (any_of HT_.out (by kernel_rfl)) (fun _ _ _ h => h) (Or.inl ⟨by rfl, pA_⟩) pB_ ?_
                                    refine pure_ (i := 11) (N := some 100) #[true, true, true, true, true, true, true, true, true, true, true, true, false, false, false, false, false, false, false, false, false, false, false, false, false, false, false, false, false] rfl rfl (any_of HT_.out (by kernel_rfl)) (fun _ _ _ h => h) (Or.inl ⟨by rfl, pA_⟩) pB_ ?_
                                    refine pure_ (i := 12) (N := some 101) #[true, true, true, true, true, true, true, true, true, true, true, true, true, false, false, false, false, false, false, false, false, false, false, false, false, false, false, false, false] rfl rfl (any_of HT_.out (by kernel_rfl)) (fun _ _ _ h => h) (Or.inl ⟨by rfl, pA_⟩) pB_ ?_
                                    refine pure_ (i := 13) (N := some 102) #[true, true, true, true, true, true, true, true, true, true, true, true, true, true, false, false, false, false, false, false, false, false, false, false, false, false, false, false, false] rfl rfl (any_of HT_.out (by kernel_rfl)) (fun _ _ _ h => h) (Or.inl ⟨by rfl, pA_⟩) pB_ ?_
                                    refine pure_ (i := 14) (N := some 103) #[true, true, true, true, true, true, true, true, true, true, true, true, true, true, true, false, false, false, false, false, false, false, false, false, false, false, false, false, false] rfl rfl (any_of HT_.out (by kernel_rfl)) (fun _ _ _ h => h) (Or.inl ⟨by rfl, pA_⟩) pB_ ?_
                                    refine pure_ (i := 15) (N := some 104) #[true, true, true, true, true, true, true, true, true, true, true, true, true, true, true, true, false, false, false, false, false, false, false, false, false, false, false, false, false] rfl rfl (any_of HT_.out (by kernel_rfl)) (fun _ _ _ h => h) (Or.inl ⟨by rfl, pA_⟩) pB_ ?_
                                    refine pure_ (i := 16) (N := some 105) #[true, true, true, true, true, true, true, true, true, true, true, true, true, true, true, true, true, false, false, false, false, false, false, false, false, false, false, false, false] rfl rfl (any_of HT_.out (by kernel_rfl)) (fun _ _ _ h => h) (Or.inl ⟨by rfl, pA_⟩) pB_ ?_
                                    refine pure_ (i := 17) (N := some 106) #[true, true, true, true, true, true, true, true, true, true, true, true, true, true, true, true, true, true, false, false, false, false, false, false, false, false, false, false, false] rfl rfl (any_of HT_.out (by kernel_rfl)) (fun _ _ _ h => h) (Or.inl ⟨by rfl, pA_⟩) pB_ ?_
                                    refine pure_ (i := 19) (N := some 108) #[true, true, true, true, true, true, true, true, true, true, true, true, true, true, true, true, true, true, false, true, false, false, false, false, false, false, false, false, false] rfl rfl (any_of HT_.out (by kernel_rfl)) (fun _ _ _ h => h) (Or.inl ⟨by rfl, pA_⟩) pB_ ?_
                                    refine pure_ (i := 20) (N := some 109) #[true, true, true, true, true, true, true, true, true, true, true, true, true, true, true, true, true, true, false, true, true, false, false, false, false, false, false, false, false] rfl rfl (any_of HT_.out (by kernel_rfl)) (fun _ _ _ h => h) (Or.inl ⟨by rfl, pA_⟩) pB_ ?_
                                    refine pure_ (i := 21) (N := some 110) #[true, true, true, true, true, true, true, true, true, true, true, true, true, true, true, true, true, true, false, true, true, true, false, false, false, false, false, false, false] rfl rfl (any_of HT_.out (by kernel_rfl)) (fun _ _ _ h => h) (Or.inl ⟨by rfl, pA_⟩) pB_ ?_
                                    refine pure_ (i := 22) (N := some 111) #[true, true, true, true, true, true, true, true, true, true, true, true, true, true, true, true, true, true, false, true, true, true, true, false, false, false, false, false, false] rfl rfl (any_of HT_.out (by kernel_rfl)) (fun _ _ _ h => h) (Or.inl ⟨by rfl, pA_⟩) pB_ ?_
                                    refine take_ (i := 18) (N := some 107) (v := ?_) (a' := ?_) #[true, true, true, true, true, true, true, true, true, true, true, true, true, true, true, true, true, true, true, true, true, true, true, false, false, false, false, false, false] rfl rfl (take_ofW HT_.out HW_.out (by kernel_rfl)) (fun _ _ _ h => h) (Or.inl ⟨by rfl, ?_⟩) hHeld ?_ ?_
                                    rotate_left
                                    · rintro w' ⟨s0, s1, s2, s3, s4, s5, s6, s7⟩
                                      go_simp
                                      with_reducible rfl
                                    rotate_left
                                    · simp only [Act.put, List.setIfInBounds_toArray, List.set_cons_zero, List.set_cons_succ, i64_w, i32_w]
                                      rfl
                                    refine take_ (i := 23) (N := some 112) (v := ?_) (a' := ?_) #[true, true, true, true, true, true, true, true, true, true, true, true, true, true, true, true, true, true, true, true, true, true, true, true, false, false, false, false, false] rfl rfl (take_ofW HT_.out HW_.out (by kernel_rfl)) (fun _ _ _ h => h) (Or.inl ⟨by rfl, ?_⟩) hHeld ?_ ?_
                                    rotate_left
                                    · rintro w' ⟨s0, s1, s2, s3, s4, s5, s6, s7⟩
                                      go_simp
                                      with_reducible rfl
                                    rotate_left
                                    · simp only [Act.put, List.setIfInBounds_toArray, List.set_cons_zero, List.set_cons_succ, i64_w, i32_w]
                                      rfl
                                    refine pure_ (i := 24) (N := some 113) #[true, true, true, true, true, true, true, true, true, true, true, true, true, true, true, true, true, true, true, true, true, true, true, true, true, false, false, false, false] rfl rfl (any_of HT_.out (by kernel_rfl)) (fun _ _ _ h => h) (Or.inl ⟨by rfl, pA_⟩) pB_ ?_
                                    refine pure_ (i := 25) (N := some 114) #[true, true, true, true, true, true, true, true, true, true, true, true, true, true, true, true, true, true, true, true, true, true, true, true, true, true, false, false, false] rfl rfl (any_of HT_.out (by kernel_rfl)) (fun _ _ _ h => h) (Or.inl ⟨by rfl, pA_⟩) pB_ ?_
                                    refine pure_ (i := 26) (N := some 115) #[true, true, true, true, true, true, true, true, true, true, true, true, true, true, true, true, true, true, true, true, true, true, true, true, true, true, true, false, false] rfl rfl (any_of HT_.out (by kernel_rfl)) (fun _ _ _ h => h) (Or.inl ⟨by rfl, pA_⟩) pB_ ?_
                                    refine pure_ (i := 27) (N := some 116) #[true, true, true, true, true, true, true, true, true, true, true, true, true, true, true, true, true, true, true, true, true, true, true, true, true, true, true, true, false] rfl rfl (any_of HT_.out (by kernel_rfl)) (fun _ _ _ h => h) (Or.inl ⟨by rfl, pA_⟩) pB_ ?_
                                    refine pure_ (i := 28) (N := some 15) #[true, true, true, true, true, true, true, true, true, true, true, true, true, true, true, true, true, true, true, true, true, true, true, true, true, true, true, true, true] rfl rfl (any_of HT_.out (by kernel_rfl)) (fun _ _ _ h => h) (Or.inl ⟨by rfl, pA_⟩) pB_ ?_
                                    refine done_ (done_of HT_.out (by kernel_rfl)) ?_
                                    obtain ⟨Ao55, co55, eo55⟩ := Kd.R_slice HO512.out
                                    subst eo55
                                    try go_wp2_with (first | (go_at_call 28; (with_reducible refine (impl_PolyConvex.calls _ _ t509 true _ ?side1 ?side2 A28.out).mono ?_); (case side1 => exact qq33 HO512.out); (case side2 => exact (Kd.R_reads' HO512.out).2.1); rintro e w56 ⟨rfl, hb⟩; have n0_ := Aside0.mk (Kd.Q_below (qq17 HO_5.out) hb); have n1_ := Aside0.mk (Kd.R_below (qq9 HO512.out) hb); have n2_ := Aside0.mk (bbl_ BK517.out hb); have n3_ := Aside0.mk (below_step (qq6 HB.out GE517.out) hb); clear HO_5; clear HO512; clear BK517; clear HB; have HO_5 := n0_; have HO512 := n1_; have BK517 := n2_; have HB := n3_; clear n0_ n1_ n2_ n3_; (try clear hb); (try clear hb2); (try clear hk); (try clear hi)) | (go_at_call 15; (with_reducible refine (laws_begunAt.calls _ _ t504 ji18 t525 _ ?side1 ?side2 A30.out).mono ?_); (case side1 => exact qq32 HO_5.out); (case side2 => exact qq70); rintro e w57 ⟨v526, rfl, ho0, hb⟩; have n0_ := Aside0.mk (Kd.Q_elder' (qq17 HO_5.out) (Kd.R_base ho0) hb); have n1_ := Aside0.mk (Kd.R_elder' (qq9 HO512.out) (Kd.R_base ho0) hb); have n2_ := Aside0.mk (Kd.R_lower (Kd.R_newB (Kd.R_new' (Kd.R_new' ho0 (Kd.Q_lt (qq17 HO_5.out))) (Kd.R_lt (qq9 HO512.out))) (g := gb517) (o := .cells #[.int .i64 (wrap64 (Int.tdiv (wrap64 (((rd_T32 t504 (ji18)).f0) + ((rd_T32 t504 (ji21)).f0))) 2)), .int .i64 (wrap64 (Int.tdiv (wrap64 (((rd_T32 t504 (ji18)).f1) + ((rd_T32 t504 (ji21)).f1))) 2))] 32 (0, 0)) (qq11 BK517.out)) (below_size (qq6 HB.out GE517.out))); have n3_ := Aside0.mk (bbl_ BK517.out hb); have n4_ := Aside0.mk (below_step (qq6 HB.out GE517.out) hb); clear HO_5; clear HO512; clear BK517; clear HB; have HO_5 := n0_; have HO512 := n1_; have HO527 := n2_; have BK517 := n3_; have HB := n4_; clear n0_ n1_ n2_ n3_ n4_; (try clear hb); (try clear hb2); (try clear hk); (try clear hi); (try clear ho0); obtain ⟨Ao58, co58, eo58⟩ := Kd.R_slice HO527.out; subst eo58) | (go_at_call 28; (with_reducible refine (impl_PolyConvex.calls _ _ t525 true _ ?side1 ?side2 A31.out).mono ?_); (case side1 => exact qq33 HO527.out); (case side2 => exact (Kd.R_reads' HO527.out).2.1); rintro e w59 ⟨rfl, hb⟩; have n0_ := Aside0.mk (Kd.Q_below (qq17 HO_5.out) hb); have n1_ := Aside0.mk (Kd.R_below (qq9 HO512.out) hb); have n2_ := Aside0.mk (Kd.R_below (qq9 HO527.out) hb); have n3_ := Aside0.mk (bbl_ BK517.out hb); have n4_ := Aside0.mk (below_step (qq6 HB.out GE517.out) hb); clear HO_5; clear HO512; clear HO527; clear BK517; clear HB; have HO_5 := n0_; have HO512 := n1_; have HO527 := n2_; have BK517 := n3_; have HB := n4_; clear n0_ n1_ n2_ n3_ n4_; (try clear hb); (try clear hb2); (try clear hk); (try clear hi)))
                                    go_ret
                                    exact ⟨qq48, qq6 HB.out GE517.out⟩
                                · replace c32 := Bool.eq_false_iff.mpr c32
                                  subst c32
                                  have H1 : (some false) = some r := by rw [if_neg (show ¬ (false = true) by decide)] at H; exact H
                                  clear H
                                  have H := H1
                                  clear H1
                                  exact absurd ((Option.some.inj H).trans hT.out) (by decide)
                              · replace c29 := Bool.eq_false_iff.mpr c29
                                subst c29
                                have H1 : (some false) = some r := by rw [if_neg (show ¬ (false = true) by decide)] at H; exact H
                                clear H
                                have H := H1
                                clear H1
                                exact absurd ((Option.some.inj H).trans hT.out) (by decide)
                            · replace c27 := Bool.eq_false_iff.mpr c27
                              subst c27
                              have H1 : (some false) = some r := by rw [if_neg (show ¬ (false = true) by decide)] at H; exact H
                              clear H
                              have H := H1
                              clear H1
                              exact absurd ((Option.some.inj H).trans hT.out) (by decide)
                          · replace c26 := Bool.eq_false_iff.mpr c26
                            subst c26
                            have H1 : (some false) = some r := by rw [if_neg (show ¬ (false = true) by decide)] at H; exact H
                            clear H
                            have H := H1
                            clear H1
                            exact absurd ((Option.some.inj H).trans hT.out) (by decide)
                        · rw [if_neg c25] at H
                          have c25b0 : ((Int.tmod (wrap64 (((rd_T32 t504 (ji18)).f0) + ((rd_T32 t504 (ji21)).f0))) 2) == 0) = false := beq_eq_false_iff_ne.mpr c25
                          have c25b1 : ((Int.tmod (wrap64 (((rd_T32 t504 (ji18)).f0) + ((rd_T32 t504 (ji21)).f0))) 2) != 0) = true := bne_iff_ne.mpr c25
                          by_cases c60 : t510 = true
                          · subst c60
                            have H1 : (if t519 = true then ((impl_PolyConvex.f t509).bind fun t529 => (if t529 = true then ((laws_begunAt.f t504 (ji18)).bind fun t530 => ((impl_PolyConvex.f t530).bind fun t533 => (if t533 = true then (some true) else (some false)))) else (some false))) else (some false)) = some r := by rw [if_pos rfl] at H; exact H
                            clear H
                            have H := H1
                            clear H1
                            by_cases c61 : t519 = true
                            · subst c61
                              have H1 : ((impl_PolyConvex.f t509).bind fun t529 => (if t529 = true then ((laws_begunAt.f t504 (ji18)).bind fun t530 => ((impl_PolyConvex.f t530).bind fun t533 => (if t533 = true then (some true) else (some false)))) else (some false))) = some r := by rw [if_pos rfl] at H; exact H
                              clear H
                              have H := H1
                              clear H1
                              replace H := Option.bind_eq_some_iff.mp H
                              obtain ⟨t529, A620, H⟩ := H
                              replace H : (if t529 = true then ((laws_begunAt.f t504 (ji18)).bind fun t530 => ((impl_PolyConvex.f t530).bind fun t533 => (if t533 = true then (some true) else (some false)))) else (some false)) = some r := H
                              have A62 := Aside0.mk A620
                              clear A620
                              by_cases c63 : t529 = true
                              · subst c63
                                have H1 : ((laws_begunAt.f t504 (ji18)).bind fun t530 => ((impl_PolyConvex.f t530).bind fun t533 => (if t533 = true then (some true) else (some false)))) = some r := by rw [if_pos rfl] at H; exact H
                                clear H
                                have H := H1
                                clear H1
                                replace H := Option.bind_eq_some_iff.mp H
                                obtain ⟨t530, A640, H⟩ := H
                                replace H : ((impl_PolyConvex.f t530).bind fun t533 => (if t533 = true then (some true) else (some false))) = some r := H
                                have A64 := Aside0.mk A640
                                clear A640
                                replace H := Option.bind_eq_some_iff.mp H
                                obtain ⟨t533, A650, H⟩ := H
                                replace H : (if t533 = true then (some true) else (some false)) = some r := H
                                have A65 := Aside0.mk A650
                                clear A650
                                by_cases c66 : t533 = true
                                · subst c66
                                  have H1 : (some true) = some r := by rw [if_pos rfl] at H; exact H
                                  clear H
                                  have H := H1
                                  clear H1
                                  obtain rfl := Option.some.inj H
                                  try go_wp2_with (first | ((with_reducible refine gate_callee (f := 14) rfl ?_); refine goesL_ (some 55) rfl rfl Try.func14 (by kernel_rfl) rfl #[.slice Ao11 t504.length co11] rfl qq3 ?_; (with_reducible refine (impl_PolyBack.calls kj8 _ _ t504 t509 true _ ?side1 ?side2 A17.out).mono ?_); (case side1 => exact qq32 HO_5.out); (case side2 => exact qq70); rintro e w67 ⟨v511, rfl, ho0, hb⟩; refine ⟨_, rfl, ?_⟩; have n0_ := Aside0.mk (Kd.Q_elder' (qq17 HO_5.out) (Kd.R_base ho0) hb); have n1_ := Aside0.mk (Kd.R_lower (Kd.R_new' ho0 (Kd.Q_lt (qq17 HO_5.out))) (below_size qq1)); have n2_ := Aside0.mk (below_step qq1 hb); clear HO_5; clear HB; have HO_5 := n0_; have HO512 := n1_; have HB := n2_; clear n0_ n1_ n2_; (try clear hb); (try clear hb2); (try clear hk); (try clear hi); (try clear ho0)))
                                  have n0_ := Aside0.mk (Kd.Q_drew HO_5.out)
                                  have n1_ := Aside0.mk (Kd.R_drew HO512.out)
                                  have n2_ := Aside0.mk (below_drew1 HB.out)
                                  clear HO_5
                                  clear HO512
                                  clear HB
                                  have HO_5 := n0_
                                  have HO512 := n1_
                                  have HB := n2_
                                  clear n0_ n1_ n2_
                                  have p513 : 0 ≤ ((ji18) : Int) := of_decide_eq_true qq10
                                  have q513 : (ji18) < (t504.length : Int) := of_decide_eq_true qq10
                                  obtain ⟨ad513, e513, hx513_0, hx513_1⟩ := at_T32 (Kd.Q_reads' HO_5.out).2.2 (ji18) p513 q513
                                  cases e513
                                  replace p513 := eq_true p513
                                  replace q513 := eq_true q513
                                  have p514 : 0 ≤ ((ji21) : Int) := of_decide_eq_true qq10
                                  have q514 : (ji21) < (t504.length : Int) := of_decide_eq_true qq10
                                  obtain ⟨ad514, e514, hx514_0, hx514_1⟩ := at_T32 (Kd.Q_reads' HO_5.out).2.2 (ji21) p514 q514
                                  obtain rfl : ad513 = ad514 := (by injection e514)
                                  replace p514 := eq_true p514
                                  replace q514 := eq_true q514
                                  have p515 : 0 ≤ ((ji18) : Int) := of_decide_eq_true qq10
                                  have q515 : (ji18) < (t504.length : Int) := of_decide_eq_true qq10
                                  obtain ⟨ad515, e515, hx515_0, hx515_1⟩ := at_T32 (Kd.Q_reads' HO_5.out).2.2 (ji18) p515 q515
                                  obtain rfl : ad513 = ad515 := (by injection e515)
                                  replace p515 := eq_true p515
                                  replace q515 := eq_true q515
                                  have p516 : 0 ≤ ((ji21) : Int) := of_decide_eq_true qq10
                                  have q516 : (ji21) < (t504.length : Int) := of_decide_eq_true qq10
                                  obtain ⟨ad516, e516, hx516_0, hx516_1⟩ := at_T32 (Kd.Q_reads' HO_5.out).2.2 (ji21) p516 q516
                                  obtain rfl : ad513 = ad516 := (by injection e516)
                                  replace p516 := eq_true p516
                                  replace q516 := eq_true q516
                                  refine start_ (n := 27) (S := fun w' => w'.cell? (ad513.add (((ji18)).toNat * 2)) = some (.int .i64 ((rd_T32 t504 (ji18)).f0)) ∧ w'.cell? ⟨(ad513.add (((ji18)).toNat * 2)).block, (ad513.add (((ji18)).toNat * 2)).off + 1, none⟩ = some (.int .i64 ((rd_T32 t504 (ji18)).f1)) ∧ w'.cell? (ad513.add (((ji21)).toNat * 2)) = some (.int .i64 ((rd_T32 t504 (ji21)).f0)) ∧ w'.cell? ⟨(ad513.add (((ji21)).toNat * 2)).block, (ad513.add (((ji21)).toNat * 2)).off + 1, none⟩ = some (.int .i64 ((rd_T32 t504 (ji21)).f1)) ∧ w'.cell? (ad513.add (((ji18)).toNat * 2)) = some (.int .i64 ((rd_T32 t504 (ji18)).f0)) ∧ w'.cell? ⟨(ad513.add (((ji18)).toNat * 2)).block, (ad513.add (((ji18)).toNat * 2)).off + 1, none⟩ = some (.int .i64 ((rd_T32 t504 (ji18)).f1)) ∧ w'.cell? (ad513.add (((ji21)).toNat * 2)) = some (.int .i64 ((rd_T32 t504 (ji21)).f0)) ∧ w'.cell? ⟨(ad513.add (((ji21)).toNat * 2)).block, (ad513.add (((ji21)).toNat * 2)).off + 1, none⟩ = some (.int .i64 ((rd_T32 t504 (ji21)).f1))) (ds := []) #[false, false, false, false, false, false, false, false, false, false, false, false, false, false, false, false, false, false, false, false, false, false, false, false, false, false, false] (by kernel_rfl) rfl rfl ⟨hx513_0, hx513_1, hx514_0, hx514_1, hx515_0, hx515_1, hx516_0, hx516_1⟩ (fun hHeld => ?_); refine with_tabW laws_FnPolyConvex.tab11 laws_FnPolyConvex.bits11 (fun HT_ HW_ => ?_)
                                  generalize w67.drew = w68 at HO_5 HO512 HB hx513_0 hx513_1 hx514_0 hx514_1 hx515_0 hx515_1 hx516_0 hx516_1 hHeld ⊢
                                  refine pure_ (i := 0) (N := some 58) #[true, false, false, false, false, false, false, false, false, false, false, false, false, false, false, false, false, false, false, false, false, false, false, false, false, false, false] rfl rfl (any_of HT_.out (by kernel_rfl)) (fun _ _ _ h => h) (Or.inl ⟨by rfl, pA_⟩) pB_ ?_
                                  refine pure_ (i := 1) (N := some 59) #[true, true, false, false, false, false, false, false, false, false, false, false, false, false, false, false, false, false, false, false, false, false, false, false, false, false, false] rfl rfl (any_of HT_.out (by kernel_rfl)) (fun _ _ _ h => h) (Or.inl ⟨by rfl, pA_⟩) pB_ ?_
                                  refine pure_ (i := 2) (N := some 60) #[true, true, true, false, false, false, false, false, false, false, false, false, false, false, false, false, false, false, false, false, false, false, false, false, false, false, false] rfl rfl (any_of HT_.out (by kernel_rfl)) (fun _ _ _ h => h) (Or.inl ⟨by rfl, pA_⟩) pB_ ?_
                                  refine pure_ (i := 3) (N := some 61) #[true, true, true, true, false, false, false, false, false, false, false, false, false, false, false, false, false, false, false, false, false, false, false, false, false, false, false] rfl rfl (any_of HT_.out (by kernel_rfl)) (fun _ _ _ h => h) (Or.inl ⟨by rfl, pA_⟩) pB_ ?_
                                  refine pure_ (i := 5) (N := some 63) #[true, true, true, true, false, true, false, false, false, false, false, false, false, false, false, false, false, false, false, false, false, false, false, false, false, false, false] rfl rfl (any_of HT_.out (by kernel_rfl)) (fun _ _ _ h => h) (Or.inl ⟨by rfl, pA_⟩) pB_ ?_
                                  refine pure_ (i := 6) (N := some 64) #[true, true, true, true, false, true, true, false, false, false, false, false, false, false, false, false, false, false, false, false, false, false, false, false, false, false, false] rfl rfl (any_of HT_.out (by kernel_rfl)) (fun _ _ _ h => h) (Or.inl ⟨by rfl, pA_⟩) pB_ ?_
                                  refine pure_ (i := 7) (N := some 65) #[true, true, true, true, false, true, true, true, false, false, false, false, false, false, false, false, false, false, false, false, false, false, false, false, false, false, false] rfl rfl (any_of HT_.out (by kernel_rfl)) (fun _ _ _ h => h) (Or.inl ⟨by rfl, pA_⟩) pB_ ?_
                                  refine pure_ (i := 8) (N := some 66) #[true, true, true, true, false, true, true, true, true, false, false, false, false, false, false, false, false, false, false, false, false, false, false, false, false, false, false] rfl rfl (any_of HT_.out (by kernel_rfl)) (fun _ _ _ h => h) (Or.inl ⟨by rfl, pA_⟩) pB_ ?_
                                  refine pure_ (i := 12) (N := some 70) #[true, true, true, true, false, true, true, true, true, false, false, false, true, false, false, false, false, false, false, false, false, false, false, false, false, false, false] rfl rfl (any_of HT_.out (by kernel_rfl)) (fun _ _ _ h => h) (Or.inl ⟨by rfl, pA_⟩) pB_ ?_
                                  refine pure_ (i := 13) (N := some 71) #[true, true, true, true, false, true, true, true, true, false, false, false, true, true, false, false, false, false, false, false, false, false, false, false, false, false, false] rfl rfl (any_of HT_.out (by kernel_rfl)) (fun _ _ _ h => h) (Or.inl ⟨by rfl, pA_⟩) pB_ ?_
                                  refine pure_ (i := 14) (N := some 72) #[true, true, true, true, false, true, true, true, true, false, false, false, true, true, true, false, false, false, false, false, false, false, false, false, false, false, false] rfl rfl (any_of HT_.out (by kernel_rfl)) (fun _ _ _ h => h) (Or.inl ⟨by rfl, pA_⟩) pB_ ?_
                                  refine pure_ (i := 15) (N := some 73) #[true, true, true, true, false, true, true, true, true, false, false, false, true, true, true, true, false, false, false, false, false, false, false, false, false, false, false] rfl rfl (any_of HT_.out (by kernel_rfl)) (fun _ _ _ h => h) (Or.inl ⟨by rfl, pA_⟩) pB_ ?_
                                  refine pure_ (i := 17) (N := some 75) #[true, true, true, true, false, true, true, true, true, false, false, false, true, true, true, true, false, true, false, false, false, false, false, false, false, false, false] rfl rfl (any_of HT_.out (by kernel_rfl)) (fun _ _ _ h => h) (Or.inl ⟨by rfl, pA_⟩) pB_ ?_
                                  refine pure_ (i := 18) (N := some 76) #[true, true, true, true, false, true, true, true, true, false, false, false, true, true, true, true, false, true, true, false, false, false, false, false, false, false, false] rfl rfl (any_of HT_.out (by kernel_rfl)) (fun _ _ _ h => h) (Or.inl ⟨by rfl, pA_⟩) pB_ ?_
                                  refine pure_ (i := 19) (N := some 77) #[true, true, true, true, false, true, true, true, true, false, false, false, true, true, true, true, false, true, true, true, false, false, false, false, false, false, false] rfl rfl (any_of HT_.out (by kernel_rfl)) (fun _ _ _ h => h) (Or.inl ⟨by rfl, pA_⟩) pB_ ?_
                                  refine pure_ (i := 20) (N := some 78) #[true, true, true, true, false, true, true, true, true, false, false, false, true, true, true, true, false, true, true, true, true, false, false, false, false, false, false] rfl rfl (any_of HT_.out (by kernel_rfl)) (fun _ _ _ h => h) (Or.inl ⟨by rfl, pA_⟩) pB_ ?_
                                  refine take_ (i := 4) (N := some 62) (v := ?_) (a' := ?_) #[true, true, true, true, true, true, true, true, true, false, false, false, true, true, true, true, false, true, true, true, true, false, false, false, false, false, false] rfl rfl (take_ofW HT_.out HW_.out (by kernel_rfl)) (fun _ _ _ h => h) (Or.inl ⟨by rfl, ?_⟩) hHeld ?_ ?_
                                  rotate_left
                                  · rintro w' ⟨s0, s1, s2, s3, s4, s5, s6, s7⟩
                                    go_simp
                                    with_reducible rfl
                                  rotate_left
                                  · simp only [Act.put, List.setIfInBounds_toArray, List.set_cons_zero, List.set_cons_succ, i64_w, i32_w]
                                    rfl
                                  refine take_ (i := 9) (N := some 67) (v := ?_) (a' := ?_) #[true, true, true, true, true, true, true, true, true, true, false, false, true, true, true, true, false, true, true, true, true, false, false, false, false, false, false] rfl rfl (take_ofW HT_.out HW_.out (by kernel_rfl)) (fun _ _ _ h => h) (Or.inl ⟨by rfl, ?_⟩) hHeld ?_ ?_
                                  rotate_left
                                  · rintro w' ⟨s0, s1, s2, s3, s4, s5, s6, s7⟩
                                    go_simp
                                    with_reducible rfl
                                  rotate_left
                                  · simp only [Act.put, List.setIfInBounds_toArray, List.set_cons_zero, List.set_cons_succ, i64_w, i32_w]
                                    rfl
                                  refine pure_ (i := 10) (N := some 68) #[true, true, true, true, true, true, true, true, true, true, true, false, true, true, true, true, false, true, true, true, true, false, false, false, false, false, false] rfl rfl (any_of HT_.out (by kernel_rfl)) (fun _ _ _ h => h) (Or.inl ⟨by rfl, pA_⟩) pB_ ?_
                                  refine pure_ (i := 11) (N := some 69) #[true, true, true, true, true, true, true, true, true, true, true, true, true, true, true, true, false, true, true, true, true, false, false, false, false, false, false] rfl rfl (any_of HT_.out (by kernel_rfl)) (fun _ _ _ h => h) (Or.inl ⟨by rfl, pA_⟩) pB_ ?_
                                  refine take_ (i := 16) (N := some 74) (v := ?_) (a' := ?_) #[true, true, true, true, true, true, true, true, true, true, true, true, true, true, true, true, true, true, true, true, true, false, false, false, false, false, false] rfl rfl (take_ofW HT_.out HW_.out (by kernel_rfl)) (fun _ _ _ h => h) (Or.inl ⟨by rfl, ?_⟩) hHeld ?_ ?_
                                  rotate_left
                                  · rintro w' ⟨s0, s1, s2, s3, s4, s5, s6, s7⟩
                                    go_simp
                                    with_reducible rfl
                                  rotate_left
                                  · simp only [Act.put, List.setIfInBounds_toArray, List.set_cons_zero, List.set_cons_succ, i64_w, i32_w]
                                    rfl
                                  refine take_ (i := 21) (N := some 79) (v := ?_) (a' := ?_) #[true, true, true, true, true, true, true, true, true, true, true, true, true, true, true, true, true, true, true, true, true, true, false, false, false, false, false] rfl rfl (take_ofW HT_.out HW_.out (by kernel_rfl)) (fun _ _ _ h => h) (Or.inl ⟨by rfl, ?_⟩) hHeld ?_ ?_
                                  rotate_left
                                  · rintro w' ⟨s0, s1, s2, s3, s4, s5, s6, s7⟩
                                    go_simp
                                    with_reducible rfl
                                  rotate_left
                                  · simp only [Act.put, List.setIfInBounds_toArray, List.set_cons_zero, List.set_cons_succ, i64_w, i32_w]
                                    rfl
                                  refine pure_ (i := 22) (N := some 80) #[true, true, true, true, true, true, true, true, true, true, true, true, true, true, true, true, true, true, true, true, true, true, true, false, false, false, false] rfl rfl (any_of HT_.out (by kernel_rfl)) (fun _ _ _ h => h) (Or.inl ⟨by rfl, pA_⟩) pB_ ?_
                                  refine pure_ (i := 23) (N := some 81) #[true, true, true, true, true, true, true, true, true, true, true, true, true, true, true, true, true, true, true, true, true, true, true, true, false, false, false] rfl rfl (any_of HT_.out (by kernel_rfl)) (fun _ _ _ h => h) (Or.inl ⟨by rfl, pA_⟩) pB_ ?_
                                  refine pure_ (i := 24) (N := some 82) #[true, true, true, true, true, true, true, true, true, true, true, true, true, true, true, true, true, true, true, true, true, true, true, true, true, false, false] rfl rfl (any_of HT_.out (by kernel_rfl)) (fun _ _ _ h => h) (Or.inl ⟨by rfl, pA_⟩) pB_ ?_
                                  refine one_ (i := 25) (N := some 12) #[true, true, true, true, true, true, true, true, true, true, true, true, true, true, true, true, true, true, true, true, true, true, true, true, true, true, false] rfl rfl (one_of HT_.out (by kernel_rfl)) (by decide) (fun K hK => ?_)
                                  refine box_step ?hg (N := 12) ?hd (cs := #[.int .i64 0, .int .i64 0]) (t := 32) ?hr ?_; (case hd => rfl); (case hg => rfl); (case hr => exact qq23)
                                  intro gb517 hg w69 hbox hb
                                  have HS0_ := (hb.cell (World.block_lt_of_cell? _ _ (hHeld.1))).trans (hHeld.1)
                                  have HS1_ := (hb.cell (World.block_lt_of_cell? _ _ (hHeld.2.1))).trans (hHeld.2.1)
                                  have HS2_ := (hb.cell (World.block_lt_of_cell? _ _ (hHeld.2.2.1))).trans (hHeld.2.2.1)
                                  have HS3_ := (hb.cell (World.block_lt_of_cell? _ _ (hHeld.2.2.2.1))).trans (hHeld.2.2.2.1)
                                  have HS4_ := (hb.cell (World.block_lt_of_cell? _ _ (hHeld.2.2.2.2.1))).trans (hHeld.2.2.2.2.1)
                                  have HS5_ := (hb.cell (World.block_lt_of_cell? _ _ (hHeld.2.2.2.2.2.1))).trans (hHeld.2.2.2.2.2.1)
                                  have HS6_ := (hb.cell (World.block_lt_of_cell? _ _ (hHeld.2.2.2.2.2.2.1))).trans (hHeld.2.2.2.2.2.2.1)
                                  have HS7_ := (hb.cell (World.block_lt_of_cell? _ _ (hHeld.2.2.2.2.2.2.2))).trans (hHeld.2.2.2.2.2.2.2)
                                  have n0_ := Aside0.mk (Kd.Q_below (Kd.Q_elderB (qq17 HO_5.out) gb517 (Nat.le_of_eq hg.symm)) hb)
                                  have n1_ := Aside0.mk (Kd.R_below (Kd.R_elderB (qq9 HO512.out) gb517 (Nat.le_of_eq hg.symm)) hb)
                                  have n2_ := Aside0.mk (below_step qq1 hb)
                                  have n3_ := Aside0.mk (hbox)
                                  have n4_ := Aside0.mk ((qq34 : w.heap.size ≤ gb517))
                                  have n5_ := Aside0.mk ((qq34 : w.heap.size ≤ gb517))
                                  clear HO_5
                                  clear HO512
                                  clear HB
                                  have HO_5 := n0_
                                  have HO512 := n1_
                                  have HB := n2_
                                  have BK517 := n3_
                                  have GW517 := n4_
                                  have GE517 := n5_
                                  clear n0_ n1_ n2_ n3_ n4_ n5_
                                  clear hb hbox hg
                                  refine hK.out _ _ ⟨HS0_, HS1_, HS2_, HS3_, HS4_, HS5_, HS6_, HS7_⟩ (fun hHeld => ?_)
                                  clear hK K
                                  refine norm_ (a' := ?_) ?_ ?_
                                  rotate_left
                                  · show Act.put _ (some 12) _ = _
                                    simp only [Act.put, List.setIfInBounds_toArray, List.set_cons_zero, List.set_cons_succ, i64_w, i32_w]
                                    rfl
                                  refine one_ (i := 26) (N := none) #[true, true, true, true, true, true, true, true, true, true, true, true, true, true, true, true, true, true, true, true, true, true, true, true, true, true, true] rfl rfl (one_of HT_.out (by kernel_rfl)) (by decide) (fun K hK => ?_)
                                  have hs70 : w69.cell? ⟨gb517, 0, none⟩ = some (.int .i64 0) := (blk_cell BK517.out 0).trans rfl
                                  have hfs70 := blk_frozen BK517.out 0
                                  have hs71 : w69.cell? ⟨gb517, 1, none⟩ = some (.int .i64 0) := (blk_cell BK517.out 1).trans rfl
                                  have hfs71 := blk_frozen BK517.out 1
                                  refine skip_ (w1 := ?_) (by rfl) rfl ?_ ?_
                                  rotate_left
                                  · go_simp
                                    rfl
                                  refine hK.out _ _ ⟨((cell_far (p := ⟨gb517, _, none⟩) qq2 _).trans (((cell_far (p := ⟨gb517, _, none⟩) qq2 _).trans (hHeld.1)))), ((cell_far (p := ⟨gb517, _, none⟩) qq2 _).trans (((cell_far (p := ⟨gb517, _, none⟩) qq2 _).trans (hHeld.2.1)))), ((cell_far (p := ⟨gb517, _, none⟩) qq2 _).trans (((cell_far (p := ⟨gb517, _, none⟩) qq2 _).trans (hHeld.2.2.1)))), ((cell_far (p := ⟨gb517, _, none⟩) qq2 _).trans (((cell_far (p := ⟨gb517, _, none⟩) qq2 _).trans (hHeld.2.2.2.1)))), ((cell_far (p := ⟨gb517, _, none⟩) qq2 _).trans (((cell_far (p := ⟨gb517, _, none⟩) qq2 _).trans (hHeld.2.2.2.2.1)))), ((cell_far (p := ⟨gb517, _, none⟩) qq2 _).trans (((cell_far (p := ⟨gb517, _, none⟩) qq2 _).trans (hHeld.2.2.2.2.2.1)))), ((cell_far (p := ⟨gb517, _, none⟩) qq2 _).trans (((cell_far (p := ⟨gb517, _, none⟩) qq2 _).trans (hHeld.2.2.2.2.2.2.1)))), ((cell_far (p := ⟨gb517, _, none⟩) qq2 _).trans (((cell_far (p := ⟨gb517, _, none⟩) qq2 _).trans (hHeld.2.2.2.2.2.2.2))))⟩ (fun hHeld => ?_)
                                  clear hK K
                                  refine done_ (done_of HT_.out (by kernel_rfl)) ?_
                                  have hcz72_0 : w69.cell? ⟨gb517, 0, none⟩ = some (.int .i64 0) := (blk_cell BK517.out 0).trans rfl
                                  have hcz72_1 : w69.cell? ⟨gb517, 1, none⟩ = some (.int .i64 0) := (blk_cell BK517.out 1).trans rfl
                                  have hfz72_0 := blk_frozen BK517.out 0
                                  have hfz72_1 := blk_frozen BK517.out 1
                                  try go_wp2_with (first | ((with_reducible refine gate_callee (f := 25) rfl ?_); refine goesL_ (some 86) rfl rfl Try.func25 (by kernel_rfl) rfl #[.slice (some ad513) t504.length co11, .agg #[.int .i64 (wrap64 (Int.tdiv (wrap64 (((rd_T32 t504 (ji18)).f0) + ((rd_T32 t504 (ji21)).f0))) 2)), .int .i64 (wrap64 (Int.tdiv (wrap64 (((rd_T32 t504 (ji18)).f1) + ((rd_T32 t504 (ji21)).f1))) 2))]] rfl qq50 ?_; (with_reducible refine (impl_PolyPlace.calls _ _ t504 (wrap64 (Int.tdiv (wrap64 (((rd_T32 t504 (ji18)).f0) + ((rd_T32 t504 (ji21)).f0))) 2)) (wrap64 (Int.tdiv (wrap64 (((rd_T32 t504 (ji18)).f1) + ((rd_T32 t504 (ji21)).f1))) 2)) t518 true _ ?side1 ?side2 A24.out).mono ?_); (case side1 => exact qq51); (case side2 => exact qq70); rintro e w73 ⟨rfl, hb⟩; refine ⟨_, rfl, ?_⟩; have n0_ := Aside0.mk (Kd.Q_below qq18 hb); have n1_ := Aside0.mk (Kd.R_below qq31 hb); have n2_ := Aside0.mk (blk_below (g := gb517) (o := .cells #[.int .i64 (wrap64 (Int.tdiv (wrap64 (((rd_T32 t504 (ji18)).f0) + ((rd_T32 t504 (ji21)).f0))) 2)), .int .i64 (wrap64 (Int.tdiv (wrap64 (((rd_T32 t504 (ji18)).f1) + ((rd_T32 t504 (ji21)).f1))) 2))] 32 (0, 0)) qq30 hb); have n3_ := Aside0.mk (below_step (qq6 HB.out GE517.out) hb); clear HO_5; clear HO512; clear BK517; clear HB; have HO_5 := n0_; have HO512 := n1_; have BK517 := n2_; have HB := n3_; clear n0_ n1_ n2_ n3_; (try clear hb); (try clear hb2); (try clear hk); (try clear hi)))
                                  have n0_ := Aside0.mk (Kd.Q_drew HO_5.out)
                                  have n1_ := Aside0.mk (Kd.R_drew HO512.out)
                                  have n2_ := Aside0.mk (blk_drew BK517.out)
                                  have n3_ := Aside0.mk (below_drew1 HB.out)
                                  clear HO_5
                                  clear HO512
                                  clear BK517
                                  clear HB
                                  have HO_5 := n0_
                                  have HO512 := n1_
                                  have BK517 := n2_
                                  have HB := n3_
                                  clear n0_ n1_ n2_ n3_
                                  have p520 : 0 ≤ ((ji18) : Int) := of_decide_eq_true qq10
                                  have q520 : (ji18) < (t504.length : Int) := of_decide_eq_true qq10
                                  obtain ⟨ad520, e520, hx520_0, hx520_1⟩ := at_T32 (Kd.Q_reads' HO_5.out).2.2 (ji18) p520 q520
                                  obtain rfl : ad513 = ad520 := (by injection e520)
                                  replace p520 := eq_true p520
                                  replace q520 := eq_true q520
                                  have p521 : 0 ≤ ((ji21) : Int) := of_decide_eq_true qq10
                                  have q521 : (ji21) < (t504.length : Int) := of_decide_eq_true qq10
                                  obtain ⟨ad521, e521, hx521_0, hx521_1⟩ := at_T32 (Kd.Q_reads' HO_5.out).2.2 (ji21) p521 q521
                                  obtain rfl : ad513 = ad521 := (by injection e521)
                                  replace p521 := eq_true p521
                                  replace q521 := eq_true q521
                                  refine start_ (n := 29) (S := fun w' => w'.cell? (ad513.add (((ji18)).toNat * 2)) = some (.int .i64 ((rd_T32 t504 (ji18)).f0)) ∧ w'.cell? ⟨(ad513.add (((ji18)).toNat * 2)).block, (ad513.add (((ji18)).toNat * 2)).off + 1, none⟩ = some (.int .i64 ((rd_T32 t504 (ji18)).f1)) ∧ w'.cell? (ad513.add (((ji21)).toNat * 2)) = some (.int .i64 ((rd_T32 t504 (ji21)).f0)) ∧ w'.cell? ⟨(ad513.add (((ji21)).toNat * 2)).block, (ad513.add (((ji21)).toNat * 2)).off + 1, none⟩ = some (.int .i64 ((rd_T32 t504 (ji21)).f1))) (ds := []) #[false, false, false, false, false, false, false, false, false, false, false, false, false, false, false, false, false, false, false, false, false, false, false, false, false, false, false, false, false] (by kernel_rfl) rfl rfl ⟨hx520_0, hx520_1, hx521_0, hx521_1⟩ (fun hHeld => ?_); refine with_tabW laws_FnPolyConvex.tab13 laws_FnPolyConvex.bits13 (fun HT_ HW_ => ?_)
                                  generalize w73.drew = w74 at HO_5 HO512 BK517 HB hx520_0 hx520_1 hx521_0 hx521_1 hHeld ⊢
                                  refine pure_ (i := 0) (N := some 89) #[true, false, false, false, false, false, false, false, false, false, false, false, false, false, false, false, false, false, false, false, false, false, false, false, false, false, false, false, false] rfl rfl (any_of HT_.out (by kernel_rfl)) (fun _ _ _ h => h) (Or.inl ⟨by rfl, pA_⟩) pB_ ?_
                                  refine pure_ (i := 1) (N := some 90) #[true, true, false, false, false, false, false, false, false, false, false, false, false, false, false, false, false, false, false, false, false, false, false, false, false, false, false, false, false] rfl rfl (any_of HT_.out (by kernel_rfl)) (fun _ _ _ h => h) (Or.inl ⟨by rfl, pA_⟩) pB_ ?_
                                  refine pure_ (i := 2) (N := some 91) #[true, true, true, false, false, false, false, false, false, false, false, false, false, false, false, false, false, false, false, false, false, false, false, false, false, false, false, false, false] rfl rfl (any_of HT_.out (by kernel_rfl)) (fun _ _ _ h => h) (Or.inl ⟨by rfl, pA_⟩) pB_ ?_
                                  refine pure_ (i := 3) (N := some 92) #[true, true, true, true, false, false, false, false, false, false, false, false, false, false, false, false, false, false, false, false, false, false, false, false, false, false, false, false, false] rfl rfl (any_of HT_.out (by kernel_rfl)) (fun _ _ _ h => h) (Or.inl ⟨by rfl, pA_⟩) pB_ ?_
                                  refine pure_ (i := 5) (N := some 94) #[true, true, true, true, false, true, false, false, false, false, false, false, false, false, false, false, false, false, false, false, false, false, false, false, false, false, false, false, false] rfl rfl (any_of HT_.out (by kernel_rfl)) (fun _ _ _ h => h) (Or.inl ⟨by rfl, pA_⟩) pB_ ?_
                                  refine pure_ (i := 6) (N := some 95) #[true, true, true, true, false, true, true, false, false, false, false, false, false, false, false, false, false, false, false, false, false, false, false, false, false, false, false, false, false] rfl rfl (any_of HT_.out (by kernel_rfl)) (fun _ _ _ h => h) (Or.inl ⟨by rfl, pA_⟩) pB_ ?_
                                  refine pure_ (i := 7) (N := some 96) #[true, true, true, true, false, true, true, true, false, false, false, false, false, false, false, false, false, false, false, false, false, false, false, false, false, false, false, false, false] rfl rfl (any_of HT_.out (by kernel_rfl)) (fun _ _ _ h => h) (Or.inl ⟨by rfl, pA_⟩) pB_ ?_
                                  refine pure_ (i := 8) (N := some 97) #[true, true, true, true, false, true, true, true, true, false, false, false, false, false, false, false, false, false, false, false, false, false, false, false, false, false, false, false, false] rfl rfl (any_of HT_.out (by kernel_rfl)) (fun _ _ _ h => h) (Or.inl ⟨by rfl, pA_⟩) pB_ ?_
                                  refine take_ (i := 4) (N := some 93) (v := ?_) (a' := ?_) #[true, true, true, true, true, true, true, true, true, false, false, false, false, false, false, false, false, false, false, false, false, false, false, false, false, false, false, false, false] rfl rfl (take_ofW HT_.out HW_.out (by kernel_rfl)) (fun _ _ _ h => h) (Or.inl ⟨by rfl, ?_⟩) hHeld ?_ ?_
                                  rotate_left
                                  · rintro w' ⟨s0, s1, s2, s3⟩
                                    go_simp
                                    with_reducible rfl
                                  rotate_left
                                  · simp only [Act.put, List.setIfInBounds_toArray, List.set_cons_zero, List.set_cons_succ, i64_w, i32_w]
                                    rfl
                                  refine take_ (i := 9) (N := some 98) (v := ?_) (a' := ?_) #[true, true, true, true, true, true, true, true, true, true, false, false, false, false, false, false, false, false, false, false, false, false, false, false, false, false, false, false, false] rfl rfl (take_ofW HT_.out HW_.out (by kernel_rfl)) (fun _ _ _ h => h) (Or.inl ⟨by rfl, ?_⟩) hHeld ?_ ?_
                                  rotate_left
                                  · rintro w' ⟨s0, s1, s2, s3⟩
                                    go_simp
                                    with_reducible rfl
                                  rotate_left
                                  · simp only [Act.put, List.setIfInBounds_toArray, List.set_cons_zero, List.set_cons_succ, i64_w, i32_w]
                                    rfl
                                  refine pure_ (i := 10) (N := some 99) #[true, true, true, true, true, true, true, true, true, true, true, false, false, false, false, false, false, false, false, false, false, false, false, false, false, false, false, false, false] rfl rfl (any_of HT_.out (by kernel_rfl)) (fun _ _ _ h => h) (Or.inl ⟨by rfl, pA_⟩) pB_ ?_
                                  refine pure_ (i := 11) (N := some 100) #[true, true, true, true, true, true, true, true, true, true, true, true, false, false, false, false, false, false, false, false, false, false, false, false, false, false, false, false, false] rfl rfl (any_of HT_.out (by kernel_rfl)) (fun _ _ _ h => h) (Or.inl ⟨by rfl, pA_⟩) pB_ ?_
                                  refine pure_ (i := 12) (N := some 101) #[true, true, true, true, true, true, true, true, true, true, true, true, true, false, false, false, false, false, false, false, false, false, false, false, false, false, false, false, false] rfl rfl (any_of HT_.out (by kernel_rfl)) (fun _ _ _ h => h) (Or.inl ⟨by rfl, pA_⟩) pB_ ?_
                                  refine pure_ (i := 13) (N := some 102) #[true, true, true, true, true, true, true, true, true, true, true, true, true, true, false, false, false, false, false, false, false, false, false, false, false, false, false, false, false] rfl rfl (any_of HT_.out (by kernel_rfl)) (fun _ _ _ h => h) (Or.inl ⟨by rfl, pA_⟩) pB_ ?_
                                  refine pure_ (i := 14) (N := some 103) (v := undef) (a' := ?_) #[true, true, true, true, true, true, true, true, true, true, true, true, true, true, true, false, false, false, false, false, false, false, false, false, false, false, false, false, false] rfl rfl (any_of HT_.out (by kernel_rfl)) (fun _ _ _ h => h) (Or.inr ⟨by rfl, rfl⟩) ?_ ?_
                                  rotate_left
                                  · simp only [Act.put, List.setIfInBounds_toArray, List.set_cons_zero, List.set_cons_succ, i64_w, i32_w]
                                    rfl
                                  refine pure_ (i := 15) (N := some 104) (v := undef) (a' := ?_) #[true, true, true, true, true, true, true, true, true, true, true, true, true, true, true, true, false, false, false, false, false, false, false, false, false, false, false, false, false] rfl rfl (any_of HT_.out (by kernel_rfl)) (fun _ _ _ h => h) (Or.inr ⟨by rfl, rfl⟩) ?_ ?_
                                  rotate_left
                                  · simp only [Act.put, List.setIfInBounds_toArray, List.set_cons_zero, List.set_cons_succ, i64_w, i32_w]
                                    rfl
                                  refine pure_ (i := 16) (N := some 105) (v := undef) (a' := ?_) #[true, true, true, true, true, true, true, true, true, true, true, true, true, true, true, true, true, false, false, false, false, false, false, false, false, false, false, false, false] rfl rfl (any_of HT_.out (by kernel_rfl)) (fun _ _ _ h => h) (Or.inr ⟨by rfl, rfl⟩) ?_ ?_
                                  rotate_left
                                  · simp only [Act.put, List.setIfInBounds_toArray, List.set_cons_zero, List.set_cons_succ, i64_w, i32_w]
                                    rfl
                                  refine pure_ (i := 17) (N := some 106) (v := undef) (a' := ?_) #[true, true, true, true, true, true, true, true, true, true, true, true, true, true, true, true, true, true, false, false, false, false, false, false, false, false, false, false, false] rfl rfl (any_of HT_.out (by kernel_rfl)) (fun _ _ _ h => h) (Or.inr ⟨by rfl, rfl⟩) ?_ ?_
                                  rotate_left
                                  · simp only [Act.put, List.setIfInBounds_toArray, List.set_cons_zero, List.set_cons_succ, i64_w, i32_w]
                                    rfl
                                  refine pure_ (i := 18) (N := some 107) (v := undef) (a' := ?_) #[true, true, true, true, true, true, true, true, true, true, true, true, true, true, true, true, true, true, true, false, false, false, false, false, false, false, false, false, false] rfl rfl (any_of HT_.out (by kernel_rfl)) (fun _ _ _ h => h) (Or.inr ⟨by rfl, rfl⟩) ?_ ?_
                                  rotate_left
                                  · simp only [Act.put, List.setIfInBounds_toArray, List.set_cons_zero, List.set_cons_succ, i64_w, i32_w]
                                    rfl
                                  refine pure_ (i := 19) (N := some 108) (v := undef) (a' := ?_) #[true, true, true, true, true, true, true, true, true, true, true, true, true, true, true, true, true, true, true, true, false, false, false, false, false, false, false, false, false] rfl rfl (any_of HT_.out (by kernel_rfl)) (fun _ _ _ h => h) (Or.inr ⟨by rfl, rfl⟩) ?_ ?_
                                  rotate_left
                                  · simp only [Act.put, List.setIfInBounds_toArray, List.set_cons_zero, List.set_cons_succ, i64_w, i32_w]
                                    rfl
                                  refine pure_ (i := 20) (N := some 109) (v := undef) (a' := ?_) #[true, true, true, true, true, true, true, true, true, true, true, true, true, true, true, true, true, true, true, true, true, false, false, false, false, false, false, false, false] rfl rfl (any_of HT_.out (by kernel_rfl)) (fun _ _ _ h => h) (Or.inr ⟨by rfl, rfl⟩) ?_ ?_
                                  rotate_left
                                  · simp only [Act.put, List.setIfInBounds_toArray, List.set_cons_zero, List.set_cons_succ, i64_w, i32_w]
                                    rfl
                                  refine pure_ (i := 21) (N := some 110) (v := undef) (a' := ?_) #[true, true, true, true, true, true, true, true, true, true, true, true, true, true, true, true, true, true, true, true, true, true, false, false, false, false, false, false, false] rfl rfl (any_of HT_.out (by kernel_rfl)) (fun _ _ _ h => h) (Or.inr ⟨by rfl, rfl⟩) ?_ ?_
                                  rotate_left
                                  · simp only [Act.put, List.setIfInBounds_toArray, List.set_cons_zero, List.set_cons_succ, i64_w, i32_w]
                                    rfl
                                  refine pure_ (i := 22) (N := some 111) (v := undef) (a' := ?_) #[true, true, true, true, true, true, true, true, true, true, true, true, true, true, true, true, true, true, true, true, true, true, true, false, false, false, false, false, false] rfl rfl (any_of HT_.out (by kernel_rfl)) (fun _ _ _ h => h) (Or.inr ⟨by rfl, rfl⟩) ?_ ?_
                                  rotate_left
                                  · simp only [Act.put, List.setIfInBounds_toArray, List.set_cons_zero, List.set_cons_succ, i64_w, i32_w]
                                    rfl
                                  refine pure_ (i := 23) (N := some 112) (v := undef) (a' := ?_) #[true, true, true, true, true, true, true, true, true, true, true, true, true, true, true, true, true, true, true, true, true, true, true, true, false, false, false, false, false] rfl rfl (any_of HT_.out (by kernel_rfl)) (fun _ _ _ h => h) (Or.inr ⟨by rfl, rfl⟩) ?_ ?_
                                  rotate_left
                                  · simp only [Act.put, List.setIfInBounds_toArray, List.set_cons_zero, List.set_cons_succ, i64_w, i32_w]
                                    rfl
                                  refine pure_ (i := 24) (N := some 113) (v := undef) (a' := ?_) #[true, true, true, true, true, true, true, true, true, true, true, true, true, true, true, true, true, true, true, true, true, true, true, true, true, false, false, false, false] rfl rfl (any_of HT_.out (by kernel_rfl)) (fun _ _ _ h => h) (Or.inr ⟨by rfl, rfl⟩) ?_ ?_
                                  rotate_left
                                  · simp only [Act.put, List.setIfInBounds_toArray, List.set_cons_zero, List.set_cons_succ, i64_w, i32_w]
                                    rfl
                                  refine pure_ (i := 25) (N := some 114) (v := undef) (a' := ?_) #[true, true, true, true, true, true, true, true, true, true, true, true, true, true, true, true, true, true, true, true, true, true, true, true, true, true, false, false, false] rfl rfl (any_of HT_.out (by kernel_rfl)) (fun _ _ _ h => h) (Or.inr ⟨by rfl, rfl⟩) ?_ ?_
                                  rotate_left
                                  · simp only [Act.put, List.setIfInBounds_toArray, List.set_cons_zero, List.set_cons_succ, i64_w, i32_w]
                                    rfl
                                  refine pure_ (i := 26) (N := some 115) (v := undef) (a' := ?_) #[true, true, true, true, true, true, true, true, true, true, true, true, true, true, true, true, true, true, true, true, true, true, true, true, true, true, true, false, false] rfl rfl (any_of HT_.out (by kernel_rfl)) (fun _ _ _ h => h) (Or.inr ⟨by rfl, rfl⟩) ?_ ?_
                                  rotate_left
                                  · simp only [Act.put, List.setIfInBounds_toArray, List.set_cons_zero, List.set_cons_succ, i64_w, i32_w]
                                    rfl
                                  refine pure_ (i := 27) (N := some 116) #[true, true, true, true, true, true, true, true, true, true, true, true, true, true, true, true, true, true, true, true, true, true, true, true, true, true, true, true, false] rfl rfl (any_of HT_.out (by kernel_rfl)) (fun _ _ _ h => h) (Or.inl ⟨by rfl, pA_⟩) pB_ ?_
                                  refine pure_ (i := 28) (N := some 15) #[true, true, true, true, true, true, true, true, true, true, true, true, true, true, true, true, true, true, true, true, true, true, true, true, true, true, true, true, true] rfl rfl (any_of HT_.out (by kernel_rfl)) (fun _ _ _ h => h) (Or.inl ⟨by rfl, pA_⟩) pB_ ?_
                                  refine done_ (done_of HT_.out (by kernel_rfl)) ?_
                                  obtain ⟨Ao75, co75, eo75⟩ := Kd.R_slice HO512.out
                                  subst eo75
                                  try go_wp2_with (first | (go_at_call 28; (with_reducible refine (impl_PolyConvex.calls _ _ t509 true _ ?side1 ?side2 A62.out).mono ?_); (case side1 => exact qq33 HO512.out); (case side2 => exact (Kd.R_reads' HO512.out).2.1); rintro e w76 ⟨rfl, hb⟩; have n0_ := Aside0.mk (Kd.Q_below (qq17 HO_5.out) hb); have n1_ := Aside0.mk (Kd.R_below (qq9 HO512.out) hb); have n2_ := Aside0.mk (bbl_ BK517.out hb); have n3_ := Aside0.mk (below_step (qq6 HB.out GE517.out) hb); clear HO_5; clear HO512; clear BK517; clear HB; have HO_5 := n0_; have HO512 := n1_; have BK517 := n2_; have HB := n3_; clear n0_ n1_ n2_ n3_; (try clear hb); (try clear hb2); (try clear hk); (try clear hi)) | (go_at_call 15; (with_reducible refine (laws_begunAt.calls _ _ t504 ji18 t530 _ ?side1 ?side2 A64.out).mono ?_); (case side1 => exact qq32 HO_5.out); (case side2 => exact qq70); rintro e w77 ⟨v531, rfl, ho0, hb⟩; have n0_ := Aside0.mk (Kd.Q_elder' (qq17 HO_5.out) (Kd.R_base ho0) hb); have n1_ := Aside0.mk (Kd.R_elder' (qq9 HO512.out) (Kd.R_base ho0) hb); have n2_ := Aside0.mk (Kd.R_lower (Kd.R_newB (Kd.R_new' (Kd.R_new' ho0 (Kd.Q_lt (qq17 HO_5.out))) (Kd.R_lt (qq9 HO512.out))) (g := gb517) (o := .cells #[.int .i64 (wrap64 (Int.tdiv (wrap64 (((rd_T32 t504 (ji18)).f0) + ((rd_T32 t504 (ji21)).f0))) 2)), .int .i64 (wrap64 (Int.tdiv (wrap64 (((rd_T32 t504 (ji18)).f1) + ((rd_T32 t504 (ji21)).f1))) 2))] 32 (0, 0)) (qq11 BK517.out)) (below_size (qq6 HB.out GE517.out))); have n3_ := Aside0.mk (bbl_ BK517.out hb); have n4_ := Aside0.mk (below_step (qq6 HB.out GE517.out) hb); clear HO_5; clear HO512; clear BK517; clear HB; have HO_5 := n0_; have HO512 := n1_; have HO532 := n2_; have BK517 := n3_; have HB := n4_; clear n0_ n1_ n2_ n3_ n4_; (try clear hb); (try clear hb2); (try clear hk); (try clear hi); (try clear ho0); obtain ⟨Ao78, co78, eo78⟩ := Kd.R_slice HO532.out; subst eo78) | (go_at_call 28; (with_reducible refine (impl_PolyConvex.calls _ _ t530 true _ ?side1 ?side2 A65.out).mono ?_); (case side1 => exact qq33 HO532.out); (case side2 => exact (Kd.R_reads' HO532.out).2.1); rintro e w79 ⟨rfl, hb⟩; have n0_ := Aside0.mk (Kd.Q_below (qq17 HO_5.out) hb); have n1_ := Aside0.mk (Kd.R_below (qq9 HO512.out) hb); have n2_ := Aside0.mk (Kd.R_below (qq9 HO532.out) hb); have n3_ := Aside0.mk (bbl_ BK517.out hb); have n4_ := Aside0.mk (below_step (qq6 HB.out GE517.out) hb); clear HO_5; clear HO512; clear HO532; clear BK517; clear HB; have HO_5 := n0_; have HO512 := n1_; have HO532 := n2_; have BK517 := n3_; have HB := n4_; clear n0_ n1_ n2_ n3_ n4_; (try clear hb); (try clear hb2); (try clear hk); (try clear hi)))
                                  go_ret
                                  exact ⟨qq48, qq6 HB.out GE517.out⟩
                                · replace c66 := Bool.eq_false_iff.mpr c66
                                  subst c66
                                  have H1 : (some false) = some r := by rw [if_neg (show ¬ (false = true) by decide)] at H; exact H
                                  clear H
                                  have H := H1
                                  clear H1
                                  exact absurd ((Option.some.inj H).trans hT.out) (by decide)
                              · replace c63 := Bool.eq_false_iff.mpr c63
                                subst c63
                                have H1 : (some false) = some r := by rw [if_neg (show ¬ (false = true) by decide)] at H; exact H
                                clear H
                                have H := H1
                                clear H1
                                exact absurd ((Option.some.inj H).trans hT.out) (by decide)
                            · replace c61 := Bool.eq_false_iff.mpr c61
                              subst c61
                              have H1 : (some false) = some r := by rw [if_neg (show ¬ (false = true) by decide)] at H; exact H
                              clear H
                              have H := H1
                              clear H1
                              exact absurd ((Option.some.inj H).trans hT.out) (by decide)
                          · replace c60 := Bool.eq_false_iff.mpr c60
                            subst c60
                            have H1 : (some false) = some r := by rw [if_neg (show ¬ (false = true) by decide)] at H; exact H
                            clear H
                            have H := H1
                            clear H1
                            exact absurd ((Option.some.inj H).trans hT.out) (by decide)
                      · rw [if_neg c23] at H
                        exact absurd H (by simp)
                    · rw [if_neg c22] at H
                      exact absurd H (by simp)
                  · rw [if_neg c20] at H
                    exact absurd H (by simp)
                · rw [if_neg c19] at H
                  exact absurd H (by simp)

/-- THE ONE PURE STATEMENT of laws_FnPolyConvex: yours. -/
def laws_FnPolyConvex.Pure : Prop := ∀ (l0 : List Int) (l1 : List Int), l0.length ≤ maxLen → l0.length * 1 ≤ 140737488351232 → (∀ x ∈ l0, (Lit.int .u8 x).wf = true) → l1.length ≤ maxLen → l1.length * 1 ≤ 140737488351232 → (∀ x ∈ l1, (Lit.int .u8 x).wf = true) → ∃ k, laws_FnPolyConvex.f k l0 l1 = some true
theorem laws_FnPolyConvex.walk (P : laws_FnPolyConvex.Pure) (a0 : Option Addr) (len0 cap0 : Nat) (z0 : List Int) (a1 : Option Addr) (len1 cap1 : Nat) (z1 : List Int) (w : World) (w0 : (a0 = none ∧ len0 = 0 ∧ cap0 = 0 ∧ z0 = []) ∨ ∃ x, a0 = some x ∧ len0 ≤ cap0 ∧ cap0 ≤ maxLen ∧ z0.length = cap0 ∧ (∀ i, i < z0.length → w.cell? (x.add i) = some (.int .u8 (z0.getD i 0))) ∧ ∀ n ∈ z0, (Lit.int .u8 n).wf = true) (y0 : len0 * 1 ≤ 140737488351232) (w1 : (a1 = none ∧ len1 = 0 ∧ cap1 = 0 ∧ z1 = []) ∨ ∃ x, a1 = some x ∧ len1 ≤ cap1 ∧ cap1 ≤ maxLen ∧ z1.length = cap1 ∧ (∀ i, i < z1.length → w.cell? (x.add i) = some (.int .u8 (z1.getD i 0))) ∧ ∀ n ∈ z1, (Lit.int .u8 n).wf = true) (y1 : len1 * 1 ≤ 140737488351232) :
    Calls Try.prog 7 #[.slice a0 len0 cap0, .slice a1 len1 cap1] w fun e w' => e = .returned (.bool true) ∧ Below w.heap.size w w' := by
  obtain ⟨l0, rfl, hr0, hm0, hw0, hc0⟩ := ReadsInt.ofRowC w0
  obtain ⟨l1, rfl, hr1, hm1, hw1, hc1⟩ := ReadsInt.ofRowC w1
  obtain ⟨k, h⟩ := P l0 l1 hm0 y0 hw0 hm1 y1 hw1
  refine (laws_FnPolyConvex.calls k _ _ l0 _ _ l1 true w (Kd.C_of_reads (d := (0 : Int)) (h1 := fun _ => rfl) hr0) hc0 (Kd.C_of_reads (d := (0 : Int)) (h1 := fun _ => rfl) hr1) hc1 h rfl).mono ?_
  rintro e w' ⟨rfl, hd⟩
  exact ⟨rfl, hd⟩

end Go.Proofs.Ytgdhgncdpmalcaa.Q
namespace Go.Proofs.Ytgdhgncdpmalcaa.Geo
set_option linter.unusedVariables false
/-! ### Sums -/
def sm (lo : Nat) : Nat → (Nat → Int) → Int
  | 0, _ => 0
  | k + 1, f => sm lo k f + f (lo + k)
theorem sm_congr {lo k : Nat} {f g : Nat → Int} (h : ∀ j, lo ≤ j → j < lo + k → f j = g j) : sm lo k f = sm lo k g := by
  induction k with
  | zero => rfl
  | succ k ih => simp only [sm]; rw [ih (fun j a b => h j a (by omega)), h (lo + k) (by omega) (by omega)]
theorem sm_tele (lo k : Nat) (f : Nat → Int) : sm lo k (fun j => f (j + 1) - f j) = f (lo + k) - f lo := by
  induction k with
  | zero => simp [sm]
  | succ k ih => simp only [sm]; rw [ih, show lo + (k + 1) = lo + k + 1 from rfl]; omega
theorem sm_first (lo k : Nat) (f : Nat → Int) : sm lo (k + 1) f = f lo + sm (lo + 1) k f := by
  induction k with
  | zero => simp [sm]
  | succ k ih => rw [sm, ih, sm, show lo + 1 + k = lo + (k + 1) from by omega]; omega
theorem sm_add (lo k : Nat) (f g : Nat → Int) : sm lo k (fun j => f j + g j) = sm lo k f + sm lo k g := by
  induction k with
  | zero => rfl
  | succ k ih => simp only [sm]; rw [ih]; omega
theorem sm_sub (lo k : Nat) (f g : Nat → Int) : sm lo k (fun j => f j - g j) = sm lo k f - sm lo k g := by
  induction k with
  | zero => rfl
  | succ k ih => simp only [sm]; rw [ih]; omega
theorem sm_zero {lo k : Nat} {f : Nat → Int} (h : ∀ j, lo ≤ j → j < lo + k → f j = 0) : sm lo k f = 0 := by
  induction k with
  | zero => rfl
  | succ k ih => simp only [sm]; rw [ih (fun j a b => h j a (by omega)), h (lo + k) (by omega) (by omega)]; rfl
theorem sm_shift (lo k : Nat) (f : Nat → Int) (h : f (lo + k) = f lo) : sm (lo + 1) k f = sm lo k f := by
  have a := sm_first lo k f
  simp only [sm] at a
  omega
theorem sm_period {n : Nat} {f : Nat → Int} (h : ∀ i, f (i + n) = f i) (lo : Nat) : sm lo n f = sm 0 n f := by
  induction lo with
  | zero => rfl
  | succ lo ih => rw [sm_shift lo n f (h lo), ih]
theorem sm_split (lo a b : Nat) (f : Nat → Int) : sm lo (a + b) f = sm lo a f + sm (lo + a) b f := by
  induction b with
  | zero => simp [sm]
  | succ b ih => rw [show a + (b + 1) = (a + b) + 1 from rfl, sm, ih, sm, show lo + (a + b) = lo + a + b from by omega]; omega
/-- A row of cells. -/
theorem sm_cells {lo k : Nat} {f g h : Nat → Int} (H : ∀ j, lo ≤ j → j < lo + k → f j + h (j + 1) = g j + h j) : sm lo k f + h (lo + k) = sm lo k g + h lo := by
  have e : sm lo k f = sm lo k (fun j => g j - (h (j + 1) - h j)) := sm_congr (fun j a b => by have := H j a b; omega)
  have e2 := sm_sub lo k g (fun j => h (j + 1) - h j)
  rw [sm_tele] at e2
  rw [e, e2]; omega

theorem sm_neg (lo k : Nat) (f : Nat → Int) : sm lo k (fun j => -(f j)) = -(sm lo k f) := by
  induction k with
  | zero => rfl
  | succ k ih => simp only [sm]; rw [ih]; omega
theorem sm_rev (k : Nat) (f : Nat → Int) : sm 0 k (fun j => f (k - 1 - j)) = sm 0 k f := by
  induction k with
  | zero => rfl
  | succ k ih =>
    rw [sm_first, sm]
    have : sm (0 + 1) k (fun j => f (k + 1 - 1 - j)) = sm 0 k (fun j => f (k - 1 - j)) := by
      have sh : ∀ (m : Nat) (g h : Nat → Int), (∀ j, j < m → g (j + 1) = h j) → sm (0 + 1) m g = sm 0 m h := by
        intro m g h
        induction m with
        | zero => intro _; rfl
        | succ m ihm => intro hh; simp only [sm]; rw [ihm (fun j hj => hh j (by omega)), show 0 + 1 + m = m + 1 from by omega, hh m (by omega), Nat.zero_add]
      exact sh k _ _ (fun j hj => by rw [show k + 1 - 1 - (j + 1) = k - 1 - j from by omega])
    rw [this, ih, Nat.zero_add, show k + 1 - 1 - 0 = k from by omega]
    omega
theorem sm_sh (m lo : Nat) (g : Nat → Int) : sm lo m g = sm 0 m (fun j => g (lo + j)) := by
  induction m with
  | zero => rfl
  | succ m ih => simp only [sm]; rw [ih, Nat.zero_add]
theorem sm_bd {lo k : Nat} {f : Nat → Int} {B : Int} (h : ∀ j, lo ≤ j → j < lo + k → -B ≤ f j ∧ f j ≤ B) : -(B * k) ≤ sm lo k f ∧ sm lo k f ≤ B * k := by
  induction k with
  | zero => simp [sm]
  | succ k ih =>
    have h1 := ih (fun j a b => h j a (by omega))
    have h2 := h (lo + k) (by omega) (by omega)
    have e : B * ((k + 1 : Nat) : Int) = B * (k : Int) + B := by rw [Int.natCast_add, Int.mul_add]; simp
    rw [sm, e]
    omega
end Go.Proofs.Ytgdhgncdpmalcaa.Geo
namespace Go.Proofs.Ytgdhgncdpmalcaa.Pure
open Go.RowKit Go.Proofs.Ytgdhgncdpmalcaa.Q Go.Proofs.Ytgdhgncdpmalcaa.Ring Go.Proofs.YtgdhgncdpmalcaaW.PrintWords Go.Proofs.YtgdhgncdpmalcaaW.PrintLast
theorem pwA {x : Int} (h0 : 0 ≤ x) (h1 : x ≤ 4611686018427387904) : wrap64 x = x := by unfold wrap64; omega
theorem Area_l0 {l : List Pt} (hl : l.length ≤ 1048576) (n : Nat) : ∀ (j k : Nat), j + n = l.length → n < k → spec_l31Area.l0 k l (areaS l j) (j : Int) = some (areaS l l.length) := by
  induction n with
  | zero =>
    intro j k hj hk
    obtain ⟨k, rfl⟩ : ∃ m, k = m + 1 := ⟨k - 1, by omega⟩
    rw [spec_l31Area.l0, if_neg (by omega), show j = l.length by omega]
  | succ n ih =>
    intro j k hj hk
    obtain ⟨k, rfl⟩ : ∃ m, k = m + 1 := ⟨k - 1, by omega⟩
    have hw : wrap64 ((j : Int) + 1) = ((j + 1 : Nat) : Int) := by rw [pwA (by omega) (by omega)]; omega
    have hmod : Int.tmod ((j + 1 : Nat) : Int) (l.length : Int) = (((j + 1) % l.length : Nat) : Int) := by
      rw [Int.tmod_eq_emod_of_nonneg (by omega)]; simp
    have hlt : (j + 1) % l.length < l.length := Nat.mod_lt _ (by omega)
    rw [spec_l31Area.l0, if_pos (by omega), if_pos (by omega), if_neg (by omega), hw, hmod, if_pos (by omega), if_pos (by omega)]
    simp only [at_rd, spec_l2Cross.f, Option.bind_some]
    have := ih (j + 1) k (by omega) (by omega)
    rw [areaS] at this
    unfold crossP nxt at this
    rw [Int.mul_comm (at_ l ((j + 1) % l.length)).f0] at this
    exact this
end Go.Proofs.Ytgdhgncdpmalcaa.Pure
namespace Go.Proofs.Ytgdhgncdpmalcaa.Pure
open Go.RowKit Go.Proofs.Ytgdhgncdpmalcaa.Q Go.Proofs.YtgdhgncdpmalcaaW.PrintWords Go.Proofs.YtgdhgncdpmalcaaW.PrintLast
/-- The first corner, then the others from the last one on. -/
def backL : List Pt → List Pt
  | [] => []
  | p :: l => p :: l.reverse
theorem Back_same (l : List Pt) (k : Nat) : ∀ (x : List Pt) (i : Int), impl_PolyBack.l0 k l x i = spec_PolyBack.l0 k l x i := by
  induction k with
  | zero => intro x i; simp only [impl_PolyBack.l0, spec_PolyBack.l0]
  | succ k ih => intro x i; simp only [impl_PolyBack.l0, spec_PolyBack.l0, ih]
theorem Back_ok {p : Pt} {l : List Pt} (hl : l.length ≤ 100) (n : Nat) : ∀ (x : List Pt) (k : Nat), n < k → n ≤ l.length → x.length ≤ 200 - n → spec_PolyBack.l0 k (p :: l) x (n : Int) = some (x ++ (l.take n).reverse, true) := by
  induction n with
  | zero =>
    intro x k hk _ _
    obtain ⟨k, rfl⟩ : ∃ m, k = m + 1 := ⟨k - 1, by omega⟩
    rw [spec_PolyBack.l0, if_neg (by omega)]
    simp
  | succ n ih =>
    intro x k hk hn hx
    obtain ⟨k, rfl⟩ : ∃ m, k = m + 1 := ⟨k - 1, by omega⟩
    rw [spec_PolyBack.l0, if_pos (by omega), if_pos (by omega), if_pos (by simp; omega), if_pos (by omega), pw64 (by omega) (by omega), show ((n + 1 : Nat) : Int) - 1 = n by omega, ih _ k (by omega) (by omega) (by simp; omega)]
    have e : rd_T32 (p :: l) ((n + 1 : Nat) : Int) = l[n] := by simp [rd_T32, List.getElem?_eq_getElem (show n < l.length by omega)]
    have e2 : (l.take (n + 1)).reverse = l[n] :: (l.take n).reverse := by rw [List.take_add_one, List.getElem?_eq_getElem (show n < l.length by omega)]; simp
    rw [e, e2, List.append_assoc]
    rfl
theorem spec_PolyBack_eq (k : Nat) (l : List Pt) (hl : l.length ≤ 1048576) (hk : l.length + 30 < k) : spec_PolyBack.f k l = some (if cvB l = true then (backL l, true) else ([], false)) := by
  unfold spec_PolyBack.f
  rw [l31Points_eq _ _ hl (by omega)]
  simp only [Option.bind_some]
  by_cases h : cvB l = true
  · have hv := cvB_iff.1 h
    rw [if_pos h, if_pos h, if_pos (by omega)]
    cases l with
    | nil => simp at hv
    | cons p l =>
      simp only [List.length_cons] at hv hk hl ⊢
      rw [pw64 (by omega) (by omega), show ((l.length + 1 : Nat) : Int) - 1 = (l.length : Int) by omega, Back_ok (by omega) l.length _ _ (by omega) (by omega) (by simp; omega), List.take_length]
      rfl
  · rw [if_neg h, if_neg h]
theorem impl_PolyBack_eq (k : Nat) (l : List Pt) (hk : l.length + 30 < k) : impl_PolyBack.f k l = some (if cvB l = true then (backL l, true) else ([], false)) := by
  unfold impl_PolyBack.f
  rw [cornersValid_eq _ _ (by omega)]
  simp only [Option.bind_some]
  by_cases h : cvB l = true
  · have hv := cvB_iff.1 h
    rw [if_pos h, if_pos h, if_pos (by omega), if_pos (by omega), if_pos (by omega), if_pos (by simp)]
    cases l with
    | nil => simp at hv
    | cons p l =>
      simp only [List.length_cons] at hv hk ⊢
      rw [Back_same, pw64 (by omega) (by omega), show ((l.length + 1 : Nat) : Int) - 1 = (l.length : Int) by omega, Back_ok (by omega) l.length _ _ (by omega) (by omega) (by simp; omega), List.take_length]
      rfl
  · rw [if_neg h, if_neg h]
end Go.Proofs.Ytgdhgncdpmalcaa.Pure
namespace Go.Proofs.Ytgdhgncdpmalcaa.Pure
open Go.RowKit Go.Proofs.Ytgdhgncdpmalcaa.Q Go.Proofs.Ytgdhgncdpmalcaa.Ring Go.Proofs.Ytgdhgncdpmalcaa.Geo Go.Proofs.YtgdhgncdpmalcaaW.PrintWords Go.Proofs.YtgdhgncdpmalcaaW.PrintLast
/-- Corner i of a list, gone round as often as it takes. -/
def PC (l : List Pt) (i : Nat) : Pt := at_ l (i % l.length)
theorem PC_at {l : List Pt} {i : Nat} (h : i < l.length) : PC l i = at_ l i := by unfold PC; rw [Nat.mod_eq_of_lt h]
theorem PC_per (l : List Pt) (i : Nat) : PC l (i + l.length) = PC l i := by unfold PC; rw [Nat.add_mod_right]
theorem PC_nxt {l : List Pt} {i : Nat} : nxt l i = PC l (i + 1) := rfl
def crI (p q : Pt) : Int := p.f0 * q.f1 - q.f0 * p.f1
theorem crI_swap (p q : Pt) : crI q p = -(crI p q) := by unfold crI; omega
def area2 (l : List Pt) : Int := sm 0 l.length (fun i => crI (PC l i) (PC l (i + 1)))
theorem at_mem {l : List Pt} {j : Nat} (hj : j < l.length) : at_ l j ∈ l := by unfold at_; rw [List.getD_eq_getElem?_getD, List.getElem?_eq_getElem hj]; exact List.getElem_mem hj
theorem cv_at {l : List Pt} (h : cvB l = true) (i : Nat) : (-10000 ≤ (PC l i).f0 ∧ (PC l i).f0 ≤ 10000) ∧ -10000 ≤ (PC l i).f1 ∧ (PC l i).f1 ≤ 10000 := by
  have hv := cvB_iff.1 h
  exact ptB_iff.1 (hv.2 _ (at_mem (Nat.mod_lt _ (by omega))))
theorem mulX {x y : Int} (hx : -10000 ≤ x ∧ x ≤ 10000) (hy : -10000 ≤ y ∧ y ≤ 10000) : -100000000 ≤ x * y ∧ x * y ≤ 100000000 := by
  have h1 : x.natAbs ≤ 10000 := by omega
  have h2 : y.natAbs ≤ 10000 := by omega
  have h3 : (x * y).natAbs ≤ 10000 * 10000 := by rw [Int.natAbs_mul]; exact Nat.mul_le_mul h1 h2
  omega
theorem crI_bd {p q : Pt} (hp : (-10000 ≤ p.f0 ∧ p.f0 ≤ 10000) ∧ -10000 ≤ p.f1 ∧ p.f1 ≤ 10000) (hq : (-10000 ≤ q.f0 ∧ q.f0 ≤ 10000) ∧ -10000 ≤ q.f1 ∧ q.f1 ≤ 10000) : -200000000 ≤ crI p q ∧ crI p q ≤ 200000000 := by
  have h1 := mulX hp.1 hq.2
  have h2 := mulX hq.1 hp.2
  unfold crI; omega
theorem crossP_eq {p q : Pt} (hp : (-10000 ≤ p.f0 ∧ p.f0 ≤ 10000) ∧ -10000 ≤ p.f1 ∧ p.f1 ≤ 10000) (hq : (-10000 ≤ q.f0 ∧ q.f0 ≤ 10000) ∧ -10000 ≤ q.f1 ∧ q.f1 ≤ 10000) : crossP p q = crI p q := by
  have h1 := mulX hp.1 hq.2
  have h2 := mulX hq.1 hp.2
  unfold crossP crI
  rw [pw64 (x := p.f0 * q.f1) (by omega) (by omega), pw64 (x := q.f0 * p.f1) (by omega) (by omega), pw64 (by omega) (by omega)]
theorem areaS_sm {l : List Pt} (h : cvB l = true) (j : Nat) (hj : j ≤ l.length) : areaS l j = sm 0 j (fun i => crI (PC l i) (PC l (i + 1))) := by
  have hv := cvB_iff.1 h
  induction j with
  | zero => rfl
  | succ j ih =>
    have e := ih (by omega)
    have b := sm_bd (lo := 0) (k := j) (f := fun i => crI (PC l i) (PC l (i + 1))) (B := 200000000) (fun i _ _ => crI_bd (cv_at h i) (cv_at h (i + 1)))
    have c := crI_bd (cv_at h j) (cv_at h (j + 1))
    rw [areaS, sm, e, PC_nxt, ← PC_at (show j < l.length by omega), crossP_eq (cv_at h j) (cv_at h (j + 1)), pw64 (by omega) (by omega), Nat.zero_add]
theorem areaS_eq {l : List Pt} (h : cvB l = true) : areaS l l.length = area2 l := areaS_sm h _ (Nat.le_refl _)
/-! lists begun elsewhere -/
def begL (l : List Pt) (k : Nat) : List Pt := l.drop k ++ l.take k
theorem begL_length {l : List Pt} {k : Nat} (hk : k ≤ l.length) : (begL l k).length = l.length := by unfold begL; rw [List.length_append, List.length_drop, List.length_take]; omega
theorem at_app (a b : List Pt) (i : Nat) : at_ (a ++ b) i = if i < a.length then at_ a i else at_ b (i - a.length) := by
  unfold at_
  simp only [List.getD_eq_getElem?_getD]
  by_cases h : i < a.length
  · rw [if_pos h, List.getElem?_append_left h]
  · rw [if_neg h, List.getElem?_append_right (by omega)]
theorem at_drop (l : List Pt) (k i : Nat) : at_ (l.drop k) i = at_ l (k + i) := by unfold at_; simp [List.getD_eq_getElem?_getD, List.getElem?_drop]
theorem at_take {l : List Pt} {k i : Nat} (h : i < k) : at_ (l.take k) i = at_ l i := by unfold at_; simp [List.getD_eq_getElem?_getD, h]
theorem at_beg {l : List Pt} {k r : Nat} (hk : k < l.length) (hr : r < l.length) : at_ (begL l k) r = at_ l ((r + k) % l.length) := by
  unfold begL
  rw [at_app, List.length_drop]
  by_cases h : r < l.length - k
  · rw [if_pos h, at_drop, Nat.mod_eq_of_lt (by omega), Nat.add_comm]
  · rw [if_neg h, at_take (by omega)]
    have e : (r + k) % l.length = r - (l.length - k) := by
      rw [show r + k = (r - (l.length - k)) + l.length by omega, Nat.add_mod_right, Nat.mod_eq_of_lt (by omega)]
    rw [e]
theorem PC_beg {l : List Pt} {k : Nat} (hk : k < l.length) (i : Nat) : PC (begL l k) i = PC l (i + k) := by
  unfold PC
  rw [begL_length (by omega), at_beg hk (Nat.mod_lt _ (by omega)), Nat.mod_add_mod]
theorem area2_beg {l : List Pt} {k : Nat} (hk : k < l.length) : area2 (begL l k) = area2 l := by
  unfold area2
  rw [begL_length (by omega)]
  have e : sm 0 l.length (fun i => crI (PC (begL l k) i) (PC (begL l k) (i + 1))) = sm 0 l.length (fun j => (fun i => crI (PC l i) (PC l (i + 1))) (k + j)) :=
    sm_congr (fun j _ _ => by rw [PC_beg hk, PC_beg hk, show j + k = k + j by omega, show j + 1 + k = k + j + 1 by omega])
  rw [e, ← sm_sh l.length k (fun i => crI (PC l i) (PC l (i + 1))), sm_period (fun i => by rw [PC_per, show i + l.length + 1 = i + 1 + l.length by omega, PC_per])]
theorem cv_beg {l : List Pt} {k : Nat} (hk : k ≤ l.length) : cvB (begL l k) = cvB l := by
  have e : ∀ p, p ∈ begL l k ↔ p ∈ l := fun p => by
    unfold begL
    rw [List.mem_append, Or.comm, ← List.mem_append, List.take_append_drop]
  unfold cvB
  rw [begL_length hk]
  congr 1
  rw [Bool.eq_iff_iff, List.all_eq_true, List.all_eq_true]
  exact ⟨fun h p hp => h p ((e p).2 hp), fun h p hp => h p ((e p).1 hp)⟩
theorem begunAt_eq {l : List Pt} {k : Nat} (hk : k ≤ l.length) (hl : l.length ≤ 100) : laws_begunAt.f l (k : Int) = some (begL l k) := by
  unfold laws_begunAt.f begL
  rw [Option.bind_some, if_pos (by omega), if_pos (by omega), Int.toNat_natCast]
  simp only [Option.bind_some, List.nil_append, List.length_nil]
  rw [if_pos (by simp; omega), if_pos (by simp; omega)]
/-! the opposite order -/
theorem PC_back {l : List Pt} {i : Nat} (hi : i ≤ l.length) : PC (backL l) i = PC l (l.length - i) := by
  cases l with
  | nil => simp [PC, backL, at_]
  | cons p l =>
    have hlen : (backL (p :: l)).length = (p :: l).length := by simp [backL]
    unfold PC
    rw [hlen]
    by_cases h0 : i = 0
    · subst h0
      simp [backL, at_]
    · by_cases h1 : i = (p :: l).length
      · subst h1
        simp [backL, at_]
      · have hi' : i < (p :: l).length := by omega
        rw [Nat.mod_eq_of_lt hi', Nat.mod_eq_of_lt (by omega)]
        obtain ⟨j, rfl⟩ : ∃ j, i = j + 1 := ⟨i - 1, by omega⟩
        simp only [List.length_cons] at hi' ⊢
        rw [show l.length + 1 - (j + 1) = (l.length - 1 - j) + 1 by omega]
        unfold at_ backL
        simp only [List.getD_eq_getElem?_getD, List.getElem?_cons_succ]
        rw [List.getElem?_reverse (by omega)]
theorem area2_back {l : List Pt} : area2 (backL l) = -(area2 l) := by
  have hlen : (backL l).length = l.length := by cases l <;> simp [backL]
  unfold area2
  rw [hlen, ← sm_neg, ← sm_rev l.length (fun i => -(crI (PC l i) (PC l (i + 1))))]
  exact sm_congr (fun j _ hj => by
    rw [PC_back (by omega), PC_back (by omega), ← crI_swap]
    rw [show l.length - 1 - j + 1 = l.length - j by omega, show l.length - 1 - j = l.length - (j + 1) by omega])
theorem cv_back (l : List Pt) : cvB (backL l) = cvB l := by
  cases l with
  | nil => rfl
  | cons p l => unfold cvB backL; simp
/-! turned -/
/-! what PolyArea answers -/
end Go.Proofs.Ytgdhgncdpmalcaa.Pure
namespace Go.Proofs.Ytgdhgncdpmalcaa.Pure
open Go.RowKit Go.Proofs.Ytgdhgncdpmalcaa.Q Go.Proofs.Ytgdhgncdpmalcaa.Ring Go.Proofs.Ytgdhgncdpmalcaa.Geo Go.Proofs.YtgdhgncdpmalcaaW.PrintWords Go.Proofs.YtgdhgncdpmalcaaW.PrintLast
def opp (x y : Int) : Prop := (0 < x ∧ y < 0) ∨ (x < 0 ∧ 0 < y)
/-- Two segments have a point in common. -/
def meetI (ax ay bx b_y cx cy dx dy : Int) : Prop := onP ax ay bx b_y cx cy ∨ onP ax ay bx b_y dx dy ∨ onP cx cy dx dy ax ay ∨ onP cx cy dx dy bx b_y ∨
  (opp (crs ax ay bx b_y cx cy) (crs ax ay bx b_y dx dy) ∧ opp (crs cx cy dx dy ax ay) (crs cx cy dx dy bx b_y))
structure SimpI (n : Nat) (X Y : Nat → Int) : Prop where
  n3 : 3 ≤ n
  px : ∀ i, X (i + n) = X i
  py : ∀ i, Y (i + n) = Y i
  dist : ∀ i j, i < n → j < n → X i = X j → Y i = Y j → i = j
  fold : ∀ i, ¬ onP (X i) (Y i) (X (i + 1)) (Y (i + 1)) (X (i + 2)) (Y (i + 2)) ∧ ¬ onP (X (i + 1)) (Y (i + 1)) (X (i + 2)) (Y (i + 2)) (X i) (Y i)
  meet : ∀ i j, i + 2 ≤ j → j + 2 ≤ i + n → ¬ meetI (X i) (Y i) (X (i + 1)) (Y (i + 1)) (X j) (Y j) (X (j + 1)) (Y (j + 1))
/-! the points of a list -/
def XX (l : List Pt) (i : Nat) : Int := (PC l i).f0
def YY (l : List Pt) (i : Nat) : Int := (PC l i).f1
theorem pvp {l : List Pt} (h : cvB l = true) (i : Nat) : PVP (PC l i) := by
  have := cv_at h i
  exact PV_iff.2 ⟨this.1.1, this.1.2, this.2.1, this.2.2⟩
theorem on_iff {p q r : Pt} (hp : PVP p) (hq : PVP q) (hr : PVP r) : onPt p q r = true ↔ onP p.f0 p.f1 q.f0 q.f1 r.f0 r.f1 := by
  unfold onPt onR
  rw [decide_eq_true_eq]
  exact ⟨fun h => h.2.2.2, fun h => ⟨hp, hq, hr, h⟩⟩
theorem on_no {p q r : Pt} (hp : PVP p) (hq : PVP q) (hr : PVP r) : onPt p q r = false ↔ ¬ onP p.f0 p.f1 q.f0 q.f1 r.f0 r.f1 := by
  rw [← on_iff hp hq hr, Bool.not_eq_true]
theorem sgn_eq {p q r : Pt} (hp : PVP p) (hq : PVP q) (hr : PVP r) : sgnP p q r = sgn (crs p.f0 p.f1 q.f0 q.f1 r.f0 r.f1) := by
  unfold sgnP; rw [sideR_yes hp hq hr]
theorem sgn_opp (x y : Int) : sgn x * sgn y < 0 ↔ opp x y := by
  unfold sgn opp
  split <;> split <;> (try split) <;> (try split) <;> first | omega | (simp; omega)
theorem meet_iff {a b c d : Pt} (ha : PVP a) (hb : PVP b) (hc : PVP c) (hd : PVP d) : meetPt a b c d = true ↔ meetI a.f0 a.f1 b.f0 b.f1 c.f0 c.f1 d.f0 d.f1 := by
  unfold meetPt meetI
  simp only [Bool.or_eq_true, Bool.and_eq_true, decide_eq_true_eq]
  rw [on_iff ha hb hc, on_iff ha hb hd, on_iff hc hd ha, on_iff hc hd hb, sgn_eq ha hb hc, sgn_eq ha hb hd, sgn_eq hc hd ha, sgn_eq hc hd hb, sgn_opp, sgn_opp]
  simp only [or_assoc]
theorem meet_no {a b c d : Pt} (ha : PVP a) (hb : PVP b) (hc : PVP c) (hd : PVP d) : meetPt a b c d = false ↔ ¬ meetI a.f0 a.f1 b.f0 b.f1 c.f0 c.f1 d.f0 d.f1 := by
  rw [← meet_iff ha hb hc hd, Bool.not_eq_true]
theorem PC_mod (l : List Pt) (i : Nat) : PC l (i % l.length) = PC l i := by unfold PC; rw [Nat.mod_mod]
theorem PC_mod1 (l : List Pt) (i d : Nat) : PC l (i % l.length + d) = PC l (i + d) := by unfold PC; rw [Nat.mod_add_mod]
theorem pt_eq {p q : Pt} (h0 : p.f0 = q.f0) (h1 : p.f1 = q.f1) : p = q := by
  obtain ⟨a, b⟩ := p; obtain ⟨c, d⟩ := q
  dsimp only at h0 h1; rw [h0, h1]
theorem same_no {p q : Pt} : sameP p q = false ↔ p ≠ q := by
  rw [← Bool.not_eq_true, sameP_iff]
  exact ⟨fun h e => h (by rw [e]; exact ⟨rfl, rfl⟩), fun h e => h (pt_eq e.1 e.2)⟩
theorem simp_iff {l : List Pt} (h : cvB l = true) : simpleB l = true ↔ SimpI l.length (XX l) (YY l) := by
  have hv := cvB_iff.1 h
  have pv := pvp h
  have at0 : ∀ i, i < l.length → at_ l i = PC l i := fun i hi => (PC_at hi).symm
  have atm : ∀ i, at_ l (i % l.length) = PC l i := fun i => rfl
  have nx : ∀ i, nxt l i = PC l (i + 1) := fun i => rfl
  have nxm : ∀ i d, nxt l ((i + d) % l.length) = PC l (i + d + 1) := fun i d => by rw [nx, PC_mod1]
  rw [simple_iff]
  constructor
  · rintro ⟨h1, h2⟩
    refine ⟨by omega, fun i => by unfold XX; rw [PC_per], fun i => by unfold YY; rw [PC_per], ?_, fun i => ?_, fun i j hi hj => ?_⟩
    · have key : ∀ i j, i < l.length → j < l.length → i < j → PC l i = PC l j → False := by
        intro i j hi hj hij e
        have := h1 i hi (j - i - 1) (by omega)
        unfold dupAt at this
        rw [show i + 1 + (j - i - 1) = j by omega, atm, at0 i hi, same_no] at this
        exact this e.symm
      intro i j hi hj e0 e1
      have e : PC l i = PC l j := pt_eq e0 e1
      rcases Nat.lt_trichotomy i j with q | q | q
      · exact (key i j hi hj q e).elim
      · exact q
      · exact (key j i hj hi q e.symm).elim
    · have := (h2 (i % l.length) (Nat.mod_lt _ (by omega))).1
      unfold foldAt at this
      rw [Bool.or_eq_false_iff, atm, nx, nxm, PC_mod1] at this
      rw [show i % l.length + 1 + 1 = i % l.length + 2 from rfl, PC_mod1] at this
      exact ⟨(on_no (pv _) (pv _) (pv _)).1 this.1, (on_no (pv _) (pv _) (pv _)).1 this.2⟩
    · have := (h2 (i % l.length) (Nat.mod_lt _ (by omega))).2 (j - i - 2) (by omega)
      unfold meetAt at this
      rw [atm, nx, PC_mod1, nxm, atm] at this
      rw [show i % l.length + 2 + (j - i - 2) + 1 = i % l.length + (j - i + 1) by omega, show i % l.length + 2 + (j - i - 2) = i % l.length + (j - i) by omega, PC_mod1, PC_mod1,
        show i + (j - i + 1) = j + 1 by omega, show i + (j - i) = j by omega] at this
      exact (meet_no (pv _) (pv _) (pv _) (pv _)).1 this
  · intro H
    refine ⟨fun i hi t ht => ?_, fun i hi => ⟨?_, fun t ht => ?_⟩⟩
    · unfold dupAt
      rw [atm, at0 i hi, same_no]
      intro e
      have hm := Nat.mod_lt (i + 1 + t) (show 0 < l.length by omega)
      rw [← PC_mod] at e
      have := H.dist _ _ hm hi (by unfold XX; rw [e]) (by unfold YY; rw [e])
      by_cases c : i + 1 + t < l.length
      · rw [Nat.mod_eq_of_lt c] at this; omega
      · rw [show i + 1 + t = (i + 1 + t - l.length) + l.length by omega, Nat.add_mod_right, Nat.mod_eq_of_lt (by omega)] at this
        omega
    · unfold foldAt
      rw [at0 i hi, nx, nxm, Bool.or_eq_false_iff]
      have := H.fold i
      exact ⟨(on_no (pv _) (pv _) (pv _)).2 this.1, (on_no (pv _) (pv _) (pv _)).2 this.2⟩
    · unfold meetAt
      rw [at0 i hi, nx, nxm, atm]
      exact (meet_no (pv _) (pv _) (pv _) (pv _)).2 (H.meet i (i + 2 + t) (by omega) (by omega))
theorem okS_iff {l : List Pt} : okS l = true ↔ cvB l = true ∧ SimpI l.length (XX l) (YY l) := by
  unfold okS
  rw [Bool.and_eq_true]
  exact ⟨fun h => ⟨h.1, (simp_iff h.1).1 h.2⟩, fun h => ⟨h.1, (simp_iff h.1).2 h.2⟩⟩
/-! another beginning, the other way round, a shift, a turn -/
theorem modp {n : Nat} {X : Nat → Int} (px : ∀ i, X (i + n) = X i) (i : Nat) : X (i % n) = X i := by
  have : ∀ k, X (i % n + n * k) = X (i % n) := by
    intro k
    induction k with
    | zero => rfl
    | succ k ih => rw [Nat.mul_succ, ← Nat.add_assoc, px, ih]
  have e := this (i / n)
  rw [Nat.mod_add_div] at e
  exact e.symm
theorem SimpI.shift {n : Nat} {X Y : Nat → Int} (h : SimpI n X Y) (k : Nat) : SimpI n (fun i => X (i + k)) (fun i => Y (i + k)) := by
  have n3 := h.n3
  refine ⟨h.n3, fun i => by rw [show i + n + k = i + k + n by omega, h.px], fun i => by rw [show i + n + k = i + k + n by omega, h.py], fun i j hi hj e0 e1 => ?_, fun i => ?_, fun i j hi hj => ?_⟩
  · rw [← modp h.px (i + k), ← modp h.px (j + k)] at e0
    rw [← modp h.py (i + k), ← modp h.py (j + k)] at e1
    have := h.dist _ _ (Nat.mod_lt _ (by omega)) (Nat.mod_lt _ (by omega)) e0 e1
    have a := Nat.div_add_mod (i + k) n
    have b := Nat.div_add_mod (j + k) n
    rw [this] at a
    rcases Nat.lt_trichotomy i j with q | q | q
    · exfalso
      rcases Nat.lt_or_ge ((i + k) / n) ((j + k) / n) with c | c
      · have : n * ((i + k) / n + 1) ≤ n * ((j + k) / n) := Nat.mul_le_mul_left _ c
        rw [Nat.mul_succ] at this; omega
      · have : n * ((j + k) / n) ≤ n * ((i + k) / n) := Nat.mul_le_mul_left _ c
        omega
    · exact q
    · exfalso
      rcases Nat.lt_or_ge ((j + k) / n) ((i + k) / n) with c | c
      · have : n * ((j + k) / n + 1) ≤ n * ((i + k) / n) := Nat.mul_le_mul_left _ c
        rw [Nat.mul_succ] at this; omega
      · have : n * ((i + k) / n) ≤ n * ((j + k) / n) := Nat.mul_le_mul_left _ c
        omega
  · have := h.fold (i + k)
    rw [show i + k + 1 = i + 1 + k by omega, show i + k + 2 = i + 2 + k by omega] at this
    exact this
  · have := h.meet (i + k) (j + k) (by omega) (by omega)
    rw [show i + k + 1 = i + 1 + k by omega, show j + k + 1 = j + 1 + k by omega] at this
    exact this
theorem crs_swap (a b c d e f : Int) : crs c d a b e f = -(crs a b c d e f) := by unfold crs; grind
theorem onP_sym {a b c d e f : Int} : onP c d a b e f ↔ onP a b c d e f := by
  unfold onP
  rw [crs_swap]
  constructor <;> intro h <;> omega
theorem opp_neg {x y : Int} : opp (-x) (-y) ↔ opp x y := by unfold opp; omega
theorem opp_sym {x y : Int} : opp y x ↔ opp x y := by unfold opp; omega
theorem meetI_rev {a b c d e f g h : Int} : meetI g h e f c d a b ↔ meetI a b c d e f g h := by
  unfold meetI
  rw [onP_sym (a := e) (b := f) (c := g) (d := h), onP_sym (a := e) (b := f) (c := g) (d := h), onP_sym (a := a) (b := b) (c := c) (d := d), onP_sym (a := a) (b := b) (c := c) (d := d)]
  rw [crs_swap e f g h, crs_swap e f g h, crs_swap a b c d, crs_swap a b c d, opp_neg, opp_neg, opp_sym (x := crs e f g h a b), opp_sym (x := crs a b c d e f)]
  constructor
  · rintro (h | h | h | h | h)
    · exact .inr (.inr (.inr (.inl h)))
    · exact .inr (.inr (.inl h))
    · exact .inr (.inl h)
    · exact .inl h
    · exact .inr (.inr (.inr (.inr ⟨h.2, h.1⟩)))
  · rintro (h | h | h | h | h)
    · exact .inr (.inr (.inr (.inl h)))
    · exact .inr (.inr (.inl h))
    · exact .inr (.inl h)
    · exact .inl h
    · exact .inr (.inr (.inr (.inr ⟨h.2, h.1⟩)))
theorem revP {n : Nat} {X : Nat → Int} (px : ∀ i, X (i + n) = X i) {e : Nat} (he : e ≤ 2 * n) : X (n - e % n) = X (2 * n - e) := by
  by_cases h : e < n
  · rw [Nat.mod_eq_of_lt h, ← px (n - e)]; congr 1; omega
  · by_cases h2 : e < 2 * n
    · rw [show e = (e - n) + n by omega, Nat.add_mod_right, Nat.mod_eq_of_lt (by omega)]; congr 1; omega
    · obtain rfl : e = 2 * n := by omega
      rw [Nat.mul_mod_left, Nat.sub_zero, Nat.sub_self, show n = 0 + n by omega, px]
theorem SimpI.rev {n : Nat} {X Y : Nat → Int} (h : SimpI n X Y) : SimpI n (fun i => X (n - i % n)) (fun i => Y (n - i % n)) := by
  have n3 := h.n3
  have rx : ∀ i d, d ≤ n → X (n - (i + d) % n) = X (2 * n - (i % n + d)) := fun i d hd => by
    have := Nat.mod_lt i (show 0 < n by omega)
    rw [← revP h.px (by omega), Nat.mod_add_mod]
  have ry : ∀ i d, d ≤ n → Y (n - (i + d) % n) = Y (2 * n - (i % n + d)) := fun i d hd => by
    have := Nat.mod_lt i (show 0 < n by omega)
    rw [← revP h.py (by omega), Nat.mod_add_mod]
  refine ⟨h.n3, fun i => by rw [Nat.add_mod_right], fun i => by rw [Nat.add_mod_right], fun i j hi hj e0 e1 => ?_, fun i => ?_, fun i j hi hj => ?_⟩
  · rw [Nat.mod_eq_of_lt hi, Nat.mod_eq_of_lt hj, ← modp h.px, ← modp h.px (n - j)] at e0
    rw [Nat.mod_eq_of_lt hi, Nat.mod_eq_of_lt hj, ← modp h.py, ← modp h.py (n - j)] at e1
    have := h.dist _ _ (Nat.mod_lt _ (by omega)) (Nat.mod_lt _ (by omega)) e0 e1
    by_cases ci : i = 0
    · by_cases cj : j = 0
      · omega
      · subst ci; rw [Nat.sub_zero, Nat.mod_self, Nat.mod_eq_of_lt (by omega)] at this; omega
    · by_cases cj : j = 0
      · subst cj; rw [Nat.sub_zero, Nat.mod_self, Nat.mod_eq_of_lt (by omega)] at this; omega
      · rw [Nat.mod_eq_of_lt (by omega), Nat.mod_eq_of_lt (by omega)] at this; omega
  · have hr := Nat.mod_lt i (show 0 < n by omega)
    have e0 := rx i 0 (by omega); have f0 := ry i 0 (by omega)
    rw [Nat.add_zero, Nat.add_zero] at e0 f0
    rw [e0, f0, rx i 1 (by omega), ry i 1 (by omega), rx i 2 (by omega), ry i 2 (by omega)]
    have := h.fold (2 * n - (i % n + 2))
    rw [show 2 * n - (i % n + 2) + 1 = 2 * n - (i % n + 1) by omega, show 2 * n - (i % n + 2) + 2 = 2 * n - i % n by omega] at this
    exact ⟨fun c => this.2 (onP_sym.1 c), fun c => this.1 (onP_sym.1 c)⟩
  · have hr := Nat.mod_lt i (show 0 < n by omega)
    obtain ⟨d, rfl⟩ : ∃ d, j = i + d := ⟨j - i, by omega⟩
    have e0 := rx i 0 (by omega); have f0 := ry i 0 (by omega)
    rw [Nat.add_zero, Nat.add_zero] at e0 f0
    rw [e0, f0, rx i 1 (by omega), ry i 1 (by omega), rx i d (by omega), ry i d (by omega), show i + d + 1 = i + (d + 1) from rfl, rx i (d + 1) (by omega), ry i (d + 1) (by omega)]
    have := h.meet (2 * n - (i % n + (d + 1))) (2 * n - (i % n + 1)) (by omega) (by omega)
    rw [show 2 * n - (i % n + (d + 1)) + 1 = 2 * n - (i % n + d) by omega, show 2 * n - (i % n + 1) + 1 = 2 * n - i % n by omega] at this
    exact fun c => this (meetI_rev.2 c)
theorem SimpI.congr {n : Nat} {X Y X' Y' : Nat → Int} (h : SimpI n X Y) (hx : ∀ i, X' i = X i) (hy : ∀ i, Y' i = Y i) : SimpI n X' Y' := by
  have e1 : X' = X := funext hx
  have e2 : Y' = Y := funext hy
  rw [e1, e2]; exact h
theorem okS_beg {l : List Pt} (h : okS l = true) {k : Nat} (hk : k < l.length) : okS (begL l k) = true := by
  obtain ⟨hc, hs⟩ := okS_iff.1 h
  refine okS_iff.2 ⟨by rw [cv_beg (by omega)]; exact hc, ?_⟩
  rw [begL_length (by omega)]
  exact (hs.shift k).congr (fun i => by unfold XX; rw [PC_beg hk]) (fun i => by unfold YY; rw [PC_beg hk])
theorem backL_len (l : List Pt) : (backL l).length = l.length := by cases l <;> simp [backL]
theorem PC_backm {l : List Pt} (h0 : 0 < l.length) (i : Nat) : PC (backL l) i = PC l (l.length - i % l.length) := by
  have := PC_back (l := l) (i := i % l.length) (Nat.le_of_lt (Nat.mod_lt _ h0))
  rw [← this, ← backL_len l, PC_mod]
theorem okS_back {l : List Pt} (h : okS l = true) : okS (backL l) = true := by
  obtain ⟨hc, hs⟩ := okS_iff.1 h
  have hv := cvB_iff.1 hc
  refine okS_iff.2 ⟨by rw [cv_back]; exact hc, ?_⟩
  rw [backL_len]
  exact hs.rev.congr (fun i => by unfold XX; rw [PC_backm (by omega)]) (fun i => by unfold YY; rw [PC_backm (by omega)])
/-- A map of points that keeps what lies where. -/
structure Rigid (f : Int → Int → Int × Int) : Prop where
  inj : ∀ a b c d, f a b = f c d → a = c ∧ b = d
  crs : ∀ a b c d e g, crs (f a b).1 (f a b).2 (f c d).1 (f c d).2 (f e g).1 (f e g).2 = crs a b c d e g
  on : ∀ a b c d e g, onP (f a b).1 (f a b).2 (f c d).1 (f c d).2 (f e g).1 (f e g).2 ↔ onP a b c d e g
theorem SimpI.map {n : Nat} {X Y : Nat → Int} (h : SimpI n X Y) {f : Int → Int → Int × Int} (hf : Rigid f) : SimpI n (fun i => (f (X i) (Y i)).1) (fun i => (f (X i) (Y i)).2) := by
  refine ⟨h.n3, fun i => by rw [h.px, h.py], fun i => by rw [h.px, h.py], fun i j hi hj e0 e1 => ?_, fun i => ?_, fun i j hi hj => ?_⟩
  · have := hf.inj _ _ _ _ (Prod.ext e0 e1)
    exact h.dist i j hi hj this.1 this.2
  · rw [hf.on, hf.on]; exact h.fold i
  · have := h.meet i j hi hj
    unfold meetI at this ⊢
    rw [hf.on, hf.on, hf.on, hf.on, hf.crs, hf.crs, hf.crs, hf.crs]
    exact this
end Go.Proofs.Ytgdhgncdpmalcaa.Pure
namespace Go.Proofs.Ytgdhgncdpmalcaa.Pure
open Go.RowKit Go.Proofs.Ytgdhgncdpmalcaa.Q Go.Proofs.Ytgdhgncdpmalcaa.Ring Go.Proofs.YtgdhgncdpmalcaaW.PrintWords Go.Proofs.YtgdhgncdpmalcaaW.PrintLast
theorem btw0 {u v s t : Int} (hv : 0 < v) (h0 : 0 ≤ s) (h1 : s ≤ v) (hu : 0 ≤ u) (h : u * s = v * t) : 0 ≤ t ∧ t ≤ u := by
  constructor
  · refine Int.not_lt.1 fun c => ?_
    have a := Int.mul_nonneg hu h0
    have b := Int.mul_neg_of_pos_of_neg hv c
    omega
  · refine Int.not_lt.1 fun c => ?_
    have a := Int.mul_nonneg hu (show 0 ≤ v - s by omega)
    have b := Int.mul_neg_of_pos_of_neg hv (show u - t < 0 by omega)
    have e1 : u * (v - s) = u * v - u * s := Int.mul_sub _ _ _
    have e2 : v * (u - t) = v * u - v * t := Int.mul_sub _ _ _
    have e3 : v * u = u * v := Int.mul_comm _ _
    omega
theorem btw {u v s t : Int} (hv : 0 < v) (h0 : 0 ≤ s) (h1 : s ≤ v) (h : u * s = v * t) : min 0 u ≤ t ∧ t ≤ max 0 u := by
  by_cases hu : 0 ≤ u
  · have := btw0 hv h0 h1 hu h; omega
  · have := btw0 (u := -u) (t := -t) hv h0 h1 (by omega) (by rw [Int.neg_mul, Int.mul_neg, h]); omega
theorem strad {a b c d e f : Int} (h : crs a b c d e f = 0) (hs : (b ≤ f ∧ f < d) ∨ (d ≤ f ∧ f < b)) : onP a b c d e f := by
  have h' := h
  unfold crs at h'
  have hm : min 0 (c - a) ≤ e - a ∧ e - a ≤ max 0 (c - a) := by
    rcases hs with hs | hs
    · exact btw (u := c - a) (v := d - b) (s := f - b) (t := e - a) (by omega) (by omega) (by omega) (by omega)
    · exact btw (u := c - a) (v := -(d - b)) (s := -(f - b)) (t := e - a) (by omega) (by omega) (by omega) (by rw [Int.mul_neg, Int.neg_mul]; omega)
  exact ⟨h, by omega, by omega, by omega, by omega⟩
theorem sgnP_zero {a b p : Pt} (ha : PVP a) (hb : PVP b) (hp : PVP p) (h : sgnP a b p = 0) : crs a.f0 a.f1 b.f0 b.f1 p.f0 p.f1 = 0 := by
  unfold sgnP at h
  rw [sideR_yes ha hb hp] at h
  exact sgn_zero.1 h
theorem off_sgn {a b p : Pt} (ha : PVP a) (hb : PVP b) (hp : PVP p) (ho : onPt a b p = false) (hs : (a.f1 ≤ p.f1 ∧ p.f1 < b.f1) ∨ (b.f1 ≤ p.f1 ∧ p.f1 < a.f1)) : sgnP a b p ≠ 0 := by
  intro h
  have := strad (sgnP_zero ha hb hp h) hs
  unfold onPt onR at ho
  rw [decide_eq_false_iff_not] at ho
  exact ho ⟨ha, hb, hp, this⟩
end Go.Proofs.Ytgdhgncdpmalcaa.Pure
namespace Go.Proofs.Ytgdhgncdpmalcaa.Pure
open Go.RowKit Go.Proofs.Ytgdhgncdpmalcaa.Q Go.Proofs.Ytgdhgncdpmalcaa.Ring Go.Proofs.Ytgdhgncdpmalcaa.Geo Go.Proofs.YtgdhgncdpmalcaaW.PrintWords Go.Proofs.YtgdhgncdpmalcaaW.PrintLast
/-- 1 if side i flips the place. -/
def flX (l : List Pt) (p : Pt) (i : Nat) : Int := if flipB (PC l i) (PC l (i + 1)) p then 1 else 0
def onX (l : List Pt) (p : Pt) (i : Nat) : Bool := onPt (PC l i) (PC l (i + 1)) p
def parI (s : Int) : Int := if s % 2 = 0 then -1 else 1
theorem placeV_par {l : List Pt} {p : Pt} (j : Nat) (hj : j ≤ l.length) : placeV l p j = parI (sm 0 j (flX l p)) := by
  induction j with
  | zero => rfl
  | succ j ih =>
    have e := ih (by omega)
    rw [placeV, sm, Nat.zero_add, e, ← PC_at (show j < l.length by omega), PC_nxt]
    unfold flX parI
    cases flipB (PC l j) (PC l (j + 1)) p
    · simp
    · simp only [if_true]
      by_cases c : sm 0 j (fun i => if flipB (PC l i) (PC l (i + 1)) p = true then 1 else 0) % 2 = 0
      · rw [if_pos c, if_neg (by omega)]; rfl
      · rw [if_neg c, if_pos (by omega)]
theorem onX_at {l : List Pt} {p : Pt} {i : Nat} (hi : i < l.length) : onAt l p i = onX l p i := by unfold onAt onX; rw [PC_at hi]; rfl
theorem onX_per (l : List Pt) (p : Pt) (i : Nat) : onX l p (i % l.length) = onX l p i := by unfold onX; rw [PC_mod, PC_mod1]
theorem place_on {l : List Pt} {p : Pt} (h0 : 0 < l.length) {i : Nat} (h : onX l p i = true) : placeR l p = 0 := by
  have hm := Nat.mod_lt i h0
  exact placeR_on hm (by rw [onX_at hm, onX_per]; exact h)
theorem place_off {l : List Pt} {p : Pt} (h : ∀ i, onX l p i = false) : placeR l p = parI (sm 0 l.length (flX l p)) := by
  rw [placeR_off (fun j hj => by rw [onX_at hj]; exact h j), placeV_par _ (Nat.le_refl _)]
/-- Two lists of one length with the same sides, up to their order. -/
theorem place_same {l m : List Pt} {p : Pt} (h0 : 0 < l.length) (h1 : 0 < m.length) (on1 : ∀ i, ∃ j, onX m p i = onX l p j) (on2 : ∀ i, ∃ j, onX l p i = onX m p j)
    (hf : (∀ i, onX l p i = false) → sm 0 m.length (flX m p) = sm 0 l.length (flX l p)) : placeR m p = placeR l p := by
  by_cases c : ∀ i, onX l p i = false
  · rw [place_off c, place_off (fun i => by obtain ⟨j, e⟩ := on1 i; rw [e]; exact c j), hf c]
  · obtain ⟨i, hi⟩ := Classical.not_forall.1 c
    have hi : onX l p i = true := by cases h : onX l p i <;> simp_all
    obtain ⟨j, e⟩ := on2 i
    rw [place_on h0 hi, place_on h1 (by rw [← e]; exact hi)]
theorem onPt_sym (a b p : Pt) : onPt b a p = onPt a b p := by
  unfold onPt onR
  rw [decide_eq_decide, onP_sym]
  constructor <;> rintro ⟨h1, h2, h3, h4⟩ <;> exact ⟨h2, h1, h3, h4⟩
theorem flip_sym {a b p : Pt} (ha : PVP a) (hb : PVP b) (hp : PVP p) (ho : onPt a b p = false) : flipB b a p = flipB a b p := by
  unfold flipB
  by_cases c : (p.f1 < a.f1) ↔ (p.f1 < b.f1)
  · have : decide (p.f1 < a.f1) = decide (p.f1 < b.f1) := decide_eq_decide.2 c
    rw [this]
    cases decide (p.f1 < b.f1) <;> rfl
  · have hs : (a.f1 ≤ p.f1 ∧ p.f1 < b.f1) ∨ (b.f1 ≤ p.f1 ∧ p.f1 < a.f1) := by omega
    have hz := off_sgn ha hb hp ho hs
    have e : sgnP b a p = -(sgnP a b p) := by
      rw [sgn_eq hb ha hp, sgn_eq ha hb hp, crs_swap]
      unfold sgn
      split <;> split <;> omega
    rw [e]
    have d1 : decide (b.f1 < a.f1) = !decide (a.f1 < b.f1) := by
      rw [Bool.eq_iff_iff]; simp; omega
    have d2 : decide (0 < -(sgnP a b p)) = !decide (0 < sgnP a b p) := by
      rw [Bool.eq_iff_iff]; simp; omega
    rw [d1, d2]
    cases decide (p.f1 < a.f1) <;> cases decide (p.f1 < b.f1) <;> cases decide (a.f1 < b.f1) <;> cases decide (0 < sgnP a b p) <;> rfl
theorem side_back {l : List Pt} (i : Nat) (hi : i < l.length) : PC (backL l) i = PC l (l.length - 1 - i + 1) ∧ PC (backL l) (i + 1) = PC l (l.length - 1 - i) := by
  constructor
  · rw [PC_back (by omega)]; congr 1; omega
  · rw [PC_back (by omega)]; congr 1; omega
theorem place_back {l : List Pt} {p : Pt} (hv : cvB l = true) (hp : PVP p) : placeR (backL l) p = placeR l p := by
  have h3 := (cvB_iff.1 hv).1
  refine place_same (by omega) (by rw [backL_len]; omega) (fun i => ⟨l.length - 1 - i % l.length, ?_⟩) (fun i => ⟨l.length - 1 - i % l.length, ?_⟩) (fun c => ?_)
  · have hm := Nat.mod_lt i (show 0 < l.length by omega)
    have e := side_back _ hm
    rw [← onX_per, backL_len]
    unfold onX
    rw [e.1, e.2, onPt_sym]
  · have hm := Nat.mod_lt i (show 0 < l.length by omega)
    have e := side_back (l := l) (l.length - 1 - i % l.length) (by omega)
    rw [← onX_per]
    unfold onX
    rw [e.1, e.2, onPt_sym, show l.length - 1 - (l.length - 1 - i % l.length) = i % l.length by omega]
  · rw [backL_len, ← sm_rev l.length (flX l p)]
    refine sm_congr (fun j _ hj => ?_)
    have e := side_back (l := l) j (by omega)
    unfold flX
    rw [e.1, e.2, flip_sym (pvp hv _) (pvp hv _) hp (c _)]
end Go.Proofs.Ytgdhgncdpmalcaa.Pure
namespace Go.Proofs.Ytgdhgncdpmalcaa.Geo
set_option linter.unusedVariables false

theorem pos_of_mul {a b : Int} (h : 0 < a * b) (hb : 0 ≤ b) : 0 < a := by
  apply Classical.byContradiction; intro k
  have := Int.mul_nonneg (show 0 ≤ -a by omega) hb
  rw [Int.neg_mul] at this; omega
theorem pos_of_mul' {a b : Int} (h : 0 < a * b) (ha : 0 ≤ a) : 0 < b := by
  rw [Int.mul_comm] at h; exact pos_of_mul h ha

def low (x y : Int) : Prop := y < 0 ∨ (y = 0 ∧ 0 < x)
instance (x y : Int) : Decidable (low x y) := by unfold low; exact inferInstance
def L (x y : Int) : Int := if low x y then 1 else 0
def cro (a b c d : Int) : Int := a * d - b * c
/-- The crossing of the step from one direction to another one over the ray to the east. -/
def cr (a b c d : Int) : Int :=
  if low a b then (if low c d then 0 else if 0 < cro a b c d then 1 else 0)
  else (if low c d then (if cro a b c d < 0 then -1 else 0) else 0)

theorem cro_swap (a b c d : Int) : cro c d a b = - cro a b c d := by unfold cro; rw [Int.mul_comm c b, Int.mul_comm d a]; omega
theorem cr_swap (a b c d : Int) : cr c d a b = - cr a b c d := by
  unfold cr; rw [cro_swap a b c d]
  repeat' split
  all_goals omega

/-- Two directions in one open half plane. -/
theorem cr_half {gx gy a b c d : Int} (h1 : 0 < gx * a + gy * b) (h2 : 0 < gx * c + gy * d) :
    cr a b c d = (if 0 < gx then L a b - L c d else 0) := by
  have key : gx * cro a b c d = (gx * a + gy * b) * d - (gx * c + gy * d) * b := by unfold cro; grind
  have aux : ∀ {p q r s : Int}, low p q → ¬ low r s → 0 < gx * p + gy * q → 0 < gx * r + gy * s →
      0 < (gx * p + gy * q) * s - (gx * r + gy * s) * q := by
    intro p q r s hl hn k1 k2
    unfold low at hl hn
    have hq : q ≤ 0 := by omega
    have hs : 0 ≤ s := by omega
    have e1 := Int.mul_nonneg (Int.le_of_lt k1) hs
    have e2 := Int.mul_nonneg (Int.le_of_lt k2) (show 0 ≤ -q by omega)
    rw [Int.mul_neg] at e2
    by_cases z : q = 0 ∧ s = 0
    · obtain ⟨rfl, rfl⟩ := z
      have hp : 0 < p := by omega
      have hr : r ≤ 0 := by omega
      simp at k1 k2
      have hg : 0 < gx := pos_of_mul k1 (Int.le_of_lt hp)
      have := Int.mul_nonneg (Int.le_of_lt hg) (show 0 ≤ -r by omega)
      rw [Int.mul_neg] at this; omega
    · rcases Classical.em (q = 0) with hq0 | hq0
      · have : 0 < s := by omega
        have := Int.mul_pos k1 this
        omega
      · have : 0 < -q := by omega
        have := Int.mul_pos k2 this
        rw [Int.mul_neg] at this; omega
  unfold cr L
  by_cases ha : low a b <;> by_cases hc : low c d
  · simp [ha, hc]
  · have k := aux ha hc h1 h2
    rw [← key] at k
    simp only [ha, hc, if_true, if_false]
    by_cases hg : 0 < gx
    · have : 0 < cro a b c d := pos_of_mul' k (Int.le_of_lt hg)
      simp [hg, this]
    · have : ¬ 0 < cro a b c d := fun h => by
        have := Int.mul_nonneg (show 0 ≤ -gx by omega) (Int.le_of_lt h)
        rw [Int.neg_mul] at this; omega
      simp [hg, this]
  · have k := aux hc ha h2 h1
    have key2 : gx * cro a b c d = - ((gx * c + gy * d) * b - (gx * a + gy * b) * d) := by rw [key]; omega
    simp only [ha, hc, if_true, if_false]
    by_cases hg : 0 < gx
    · have : cro a b c d < 0 := by
        apply Classical.byContradiction; intro h
        have := Int.mul_nonneg (Int.le_of_lt hg) (show 0 ≤ cro a b c d by omega)
        omega
      simp [hg, this]
    · have : ¬ cro a b c d < 0 := fun h => by
        have := Int.mul_nonneg (show 0 ≤ -gx by omega) (show 0 ≤ - cro a b c d by omega)
        rw [Int.neg_mul, Int.mul_neg] at this; omega
      simp [hg, this]
  · simp [ha, hc]

/-- Disjoint: a line lies between two segments, seen as one functional that is positive on all four secants. -/
def Sep (ax ay bx b_y cx cy dx dy : Int) : Prop := ∃ gx gy : Int, 0 < gx * (cx - ax) + gy * (cy - ay) ∧ 0 < gx * (dx - ax) + gy * (dy - ay) ∧ 0 < gx * (cx - bx) + gy * (cy - b_y) ∧ 0 < gx * (dx - bx) + gy * (dy - b_y)

/-- The cell: seen from the ends of one of two disjoint segments, the ends of the other one. -/
theorem cell {ax ay bx b_y cx cy dx dy : Int} (h : Sep ax ay bx b_y cx cy dx dy) :
    cr (cx - ax) (cy - ay) (dx - ax) (dy - ay) + cr (dx - ax) (dy - ay) (dx - bx) (dy - b_y) =
    cr (cx - bx) (cy - b_y) (dx - bx) (dy - b_y) + cr (cx - ax) (cy - ay) (cx - bx) (cy - b_y) := by
  obtain ⟨gx, gy, h1, h2, h3, h4⟩ := h
  rw [cr_half h1 h2, cr_half h2 h4, cr_half h3 h4, cr_half h1 h3]
  split <;> omega

/-- Not antiparallel, and none is 0: one functional is positive on both. -/
def Fwd (a b c d : Int) : Prop := ∃ gx gy : Int, 0 < gx * a + gy * b ∧ 0 < gx * c + gy * d

theorem tri {a b c d : Int} (h : Fwd a b c d) : cr a b (a + c) (b + d) + cr (a + c) (b + d) c d = cr a b c d := by
  obtain ⟨gx, gy, h1, h2⟩ := h
  have h3 : 0 < gx * (a + c) + gy * (b + d) := by rw [Int.mul_add, Int.mul_add]; omega
  rw [cr_half h1 h3, cr_half h3 h2, cr_half h1 h2]
  split <;> omega

theorem low_neg {a b : Int} (h : ¬ (a = 0 ∧ b = 0)) : low (-a) (-b) ↔ ¬ low a b := by unfold low; omega
theorem cr_neg {a b c d : Int} (h : Fwd a b c d) : cr a b c d = cr (-a) (-b) (-c) (-d) + L a b - L c d := by
  obtain ⟨gx, gy, h1, h2⟩ := h
  have h1' : 0 < (-gx) * (-a) + (-gy) * (-b) := by rw [Int.neg_mul_neg, Int.neg_mul_neg]; exact h1
  have h2' : 0 < (-gx) * (-c) + (-gy) * (-d) := by rw [Int.neg_mul_neg, Int.neg_mul_neg]; exact h2
  have ha : ¬ (a = 0 ∧ b = 0) := fun ⟨x, y⟩ => by subst x; subst y; simp at h1
  have hc : ¬ (c = 0 ∧ d = 0) := fun ⟨x, y⟩ => by subst x; subst y; simp at h2
  rw [cr_half h1 h2, cr_half h1' h2']
  have la : L (-a) (-b) = 1 - L a b := by unfold L; simp only [low_neg ha]; split <;> simp_all
  have lc : L (-c) (-d) = 1 - L c d := by unfold L; simp only [low_neg hc]; split <;> simp_all
  rw [la, lc]
  rcases Classical.em (gx = 0) with hg | hg
  · subst hg
    simp at h1 h2
    have : L a b = L c d := by
      have lw : (low a b ↔ low c d) → L a b = L c d := fun e => by unfold L; simp only [e]
      refine lw ?_
      unfold low
      rcases Int.lt_trichotomy gy 0 with g | g | g
      · have hb : b < 0 := by
          apply Classical.byContradiction; intro h
          have := Int.mul_nonneg (show 0 ≤ -gy by omega) (show 0 ≤ b by omega)
          rw [Int.neg_mul] at this; omega
        have hd : d < 0 := by
          apply Classical.byContradiction; intro h
          have := Int.mul_nonneg (show 0 ≤ -gy by omega) (show 0 ≤ d by omega)
          rw [Int.neg_mul] at this; omega
        simp [hb, hd]
      · subst g; simp at h1
      · have hb : 0 < b := by
          apply Classical.byContradiction; intro h
          have := Int.mul_nonneg (show 0 ≤ gy by omega) (show 0 ≤ -b by omega)
          rw [Int.mul_neg] at this; omega
        have hd : 0 < d := by
          apply Classical.byContradiction; intro h
          have := Int.mul_nonneg (show 0 ≤ gy by omega) (show 0 ≤ -d by omega)
          rw [Int.mul_neg] at this; omega
        omega
    simp; omega
  · by_cases g : 0 < gx
    · rw [if_pos g, if_neg (by omega)]; omega
    · rw [if_neg g, if_pos (by omega)]; omega

/-! ### Simple polygons -/
/-- A closed polygon: corners X i, Y i with the period n. Sides that are no neighbours are apart; no corner folds back. -/
structure Simple (n : Nat) (X Y : Nat → Int) : Prop where
  n3 : 3 ≤ n
  px : ∀ i, X (i + n) = X i
  py : ∀ i, Y (i + n) = Y i
  sep : ∀ i j, i + 2 ≤ j → j + 2 ≤ i + n → Sep (X i) (Y i) (X (i + 1)) (Y (i + 1)) (X j) (Y j) (X (j + 1)) (Y (j + 1))
  fwd : ∀ i, Fwd (X (i + 1) - X i) (Y (i + 1) - Y i) (X (i + 2) - X (i + 1)) (Y (i + 2) - Y (i + 1))

/-- The crossing of side j, seen from a point. -/
def side (X Y : Nat → Int) (x y : Int) (j : Nat) : Int := cr (X j - x) (Y j - y) (X (j + 1) - x) (Y (j + 1) - y)
/-- Seen from the corner i: all sides that do not touch it. -/
def open_ (n : Nat) (X Y : Nat → Int) (i : Nat) : Int := sm (i + 1) (n - 2) (side X Y (X i) (Y i))

theorem Fwd.neg {a b c d : Int} (h : Fwd a b c d) : Fwd (-a) (-b) (-c) (-d) := by
  obtain ⟨gx, gy, h1, h2⟩ := h
  exact ⟨-gx, -gy, by rw [Int.neg_mul_neg, Int.neg_mul_neg]; exact h1, by rw [Int.neg_mul_neg, Int.neg_mul_neg]; exact h2⟩
theorem tri' {a b c d s t : Int} (h : Fwd a b c d) (hs : s = a + c) (ht : t = b + d) : cr a b s t + cr s t c d = cr a b c d := by subst hs; subst ht; exact tri h
theorem trin {a b c d s t : Int} (h : Fwd a b c d) (hs : s = -a - c) (ht : t = -b - d) : cr (-a) (-b) s t + cr s t (-c) (-d) = cr (-a) (-b) (-c) (-d) :=
  tri' h.neg (by omega) (by omega)

theorem open_step {n : Nat} {X Y : Nat → Int} (h : Simple n X Y) (i : Nat) :
    open_ n X Y (i + 2) + cr (X (i + 2) - X (i + 1)) (Y (i + 2) - Y (i + 1)) (X (i + 3) - X (i + 2)) (Y (i + 3) - Y (i + 2)) =
    open_ n X Y (i + 1) + cr (-(X (i + 1) - X i)) (-(Y (i + 1) - Y i)) (-(X (i + 2) - X (i + 1))) (-(Y (i + 2) - Y (i + 1))) := by
  obtain ⟨m, rfl⟩ : ∃ m, n = m + 3 := ⟨n - 3, by have := h.n3; omega⟩
  have e1 : open_ (m + 3) X Y (i + 1) = side X Y (X (i + 1)) (Y (i + 1)) (i + 2) + sm (i + 3) m (side X Y (X (i + 1)) (Y (i + 1))) := sm_first (i + 2) m _
  have e2 : open_ (m + 3) X Y (i + 2) = sm (i + 3) m (side X Y (X (i + 2)) (Y (i + 2))) + side X Y (X (i + 2)) (Y (i + 2)) (i + 3 + m) := rfl
  have c := sm_cells (lo := i + 3) (k := m) (f := side X Y (X (i + 1)) (Y (i + 1))) (g := side X Y (X (i + 2)) (Y (i + 2)))
    (h := fun j => cr (X j - X (i + 1)) (Y j - Y (i + 1)) (X j - X (i + 2)) (Y j - Y (i + 2))) (fun j a b => cell (h.sep (i + 1) j (by omega) (by omega)))
  have p1 : X (i + 3 + m) = X i := by rw [show i + 3 + m = i + (m + 3) from by omega]; exact h.px i
  have p2 : Y (i + 3 + m) = Y i := by rw [show i + 3 + m = i + (m + 3) from by omega]; exact h.py i
  have p3 : X (i + 3 + m + 1) = X (i + 1) := by rw [show i + 3 + m + 1 = i + 1 + (m + 3) from by omega]; exact h.px _
  have p4 : Y (i + 3 + m + 1) = Y (i + 1) := by rw [show i + 3 + m + 1 = i + 1 + (m + 3) from by omega]; exact h.py _
  have t1 := trin (h.fwd i) (s := X i - X (i + 2)) (t := Y i - Y (i + 2)) (by omega) (by omega)
  have t2 := tri' (h.fwd (i + 1)) (s := X (i + 3) - X (i + 1)) (t := Y (i + 3) - Y (i + 1)) (by simp only [Nat.add_assoc, Nat.reduceAdd]; omega) (by simp only [Nat.add_assoc, Nat.reduceAdd]; omega)
  unfold side at e1 e2
  simp only [p1, p2, p3, p4] at e2 c
  simp only [Nat.add_assoc, Nat.reduceAdd] at e1 e2 c t1 t2
  rw [show -(X (i + 1) - X i) = X i - X (i + 1) from by omega, show -(Y (i + 1) - Y i) = Y i - Y (i + 1) from by omega, show -(X (i + 2) - X (i + 1)) = X (i + 1) - X (i + 2) from by omega, show -(Y (i + 2) - Y (i + 1)) = Y (i + 1) - Y (i + 2) from by omega] at t1 ⊢
  unfold side at c
  omega

/-- How often the polygon goes round what lies just to the left of side i + 1. -/
def wl (n : Nat) (X Y : Nat → Int) (i : Nat) : Int :=
  open_ n X Y (i + 1) + cr (-(X (i + 1) - X i)) (-(Y (i + 1) - Y i)) (-(X (i + 2) - X (i + 1))) (-(Y (i + 2) - Y (i + 1))) + 1 - L (X (i + 2) - X (i + 1)) (Y (i + 2) - Y (i + 1))

theorem wl_step {n : Nat} {X Y : Nat → Int} (h : Simple n X Y) (i : Nat) : wl n X Y (i + 1) = wl n X Y i := by
  have a := open_step h i
  have b := cr_neg (h.fwd (i + 1))
  unfold wl
  simp only [Nat.add_assoc, Nat.reduceAdd] at b ⊢
  omega
theorem wl_all {n : Nat} {X Y : Nat → Int} (h : Simple n X Y) (i : Nat) : wl n X Y i = wl n X Y 0 := by
  induction i with
  | zero => rfl
  | succ i ih => rw [wl_step h, ih]

/-- A corner from which no other one is low. -/
theorem lowest (X Y : Nat → Int) (k : Nat) : ∃ m, m ≤ k ∧ ∀ j, j ≤ k → ¬ low (X j - X m) (Y j - Y m) := by
  induction k with
  | zero => exact ⟨0, Nat.le_refl _, fun j hj => by obtain rfl : j = 0 := by omega
                                                    unfold low; omega⟩
  | succ k ih =>
    obtain ⟨m, hm, hl⟩ := ih
    by_cases c : low (X (k + 1) - X m) (Y (k + 1) - Y m)
    · refine ⟨k + 1, Nat.le_refl _, fun j hj => ?_⟩
      by_cases e : j = k + 1
      · subst e; unfold low; omega
      · have := hl j (by omega)
        unfold low at *; omega
    · refine ⟨m, by omega, fun j hj => ?_⟩
      by_cases e : j = k + 1
      · subst e; exact c
      · exact hl j (by omega)

theorem mod_eq {n : Nat} {X : Nat → Int} (px : ∀ i, X (i + n) = X i) (i k : Nat) : X (i + k * n) = X i := by
  induction k with
  | zero => simp
  | succ k ih => rw [Nat.succ_mul, ← Nat.add_assoc, px, ih]
theorem mod_eq' {n : Nat} {X : Nat → Int} (px : ∀ i, X (i + n) = X i) (i : Nat) : X i = X (i % n) := by
  have := mod_eq px (i % n) (i / n)
  rw [Nat.mul_comm, Nat.mod_add_div] at this
  exact this

theorem Simple.edge {n : Nat} {X Y : Nat → Int} (h : Simple n X Y) (i : Nat) : ¬ (X (i + 1) - X i = 0 ∧ Y (i + 1) - Y i = 0) := fun ⟨a, b⟩ => by
  obtain ⟨gx, gy, h1, _⟩ := h.fwd i
  rw [a, b] at h1; simp at h1

/-- The number is 1 or 0. -/
theorem wl_01 {n : Nat} {X Y : Nat → Int} (h : Simple n X Y) : wl n X Y 0 = 1 ∨ wl n X Y 0 = 0 := by
  have n3 := h.n3
  obtain ⟨m, hm, hl⟩ := lowest X Y (n - 1)
  have all : ∀ j, ¬ low (X j - X m) (Y j - Y m) := fun j => by
    rw [mod_eq' h.px j, mod_eq' h.py j]
    exact hl _ (by have := Nat.mod_lt j (show 0 < n by omega); omega)
  obtain ⟨i, hi⟩ : ∃ i, X (i + 1) = X m ∧ Y (i + 1) = Y m := ⟨m + (n - 1), by rw [show m + (n - 1) + 1 = m + n from by omega]; exact ⟨h.px m, h.py m⟩⟩
  rw [← wl_all h i]
  have all' : ∀ j, ¬ low (X j - X (i + 1)) (Y j - Y (i + 1)) := fun j => by rw [hi.1, hi.2]; exact all j
  have o : open_ n X Y (i + 1) = 0 := sm_zero (fun j _ _ => by unfold side cr; rw [if_neg (all' _), if_neg (all' _)])
  have l : L (X (i + 2) - X (i + 1)) (Y (i + 2) - Y (i + 1)) = 0 := by unfold L; rw [if_neg (all' _)]
  have ne := h.edge (i + 1)
  simp only [Nat.add_assoc, Nat.reduceAdd] at ne
  have lo2 : low (-(X (i + 2) - X (i + 1))) (-(Y (i + 2) - Y (i + 1))) := (low_neg ne).2 (all' _)
  have lo1 : ¬ low (-(X (i + 1) - X i)) (-(Y (i + 1) - Y i)) := by
    rw [show -(X (i + 1) - X i) = X i - X (i + 1) from by omega, show -(Y (i + 1) - Y i) = Y i - Y (i + 1) from by omega]; exact all' _
  unfold wl
  rw [o, l]
  unfold cr
  rw [if_neg lo1, if_pos lo2]
  split <;> omega

/-! ### A point on a side -/
theorem cr_zero {a b c d : Int} (h : cro a b c d = 0) : cr a b c d = 0 := by
  unfold cr; rw [h]; simp
theorem low_scale {k a b : Int} (hk : 0 < k) : low (k * a) (k * b) ↔ low a b := by
  unfold low
  have e1 : k * b < 0 ↔ b < 0 := by
    constructor
    · intro h; apply Classical.byContradiction; intro c
      have := Int.mul_nonneg (Int.le_of_lt hk) (show 0 ≤ b by omega); omega
    · intro h; have := Int.mul_pos hk (show 0 < -b by omega); rw [Int.mul_neg] at this; omega
  have e2 : k * b = 0 ↔ b = 0 := by
    constructor
    · intro h; rcases Int.mul_eq_zero.1 h with c | c <;> omega
    · rintro rfl; simp
  have e3 : 0 < k * a ↔ 0 < a := by
    constructor
    · intro h; exact pos_of_mul' h (Int.le_of_lt hk)
    · intro h; exact Int.mul_pos hk h
  rw [e1, e2, e3]
theorem cro_scale_r {k a b c d : Int} : cro a b (k * c) (k * d) = k * cro a b c d := by unfold cro; grind
theorem sign_scale {k x : Int} (hk : 0 < k) : (0 < k * x ↔ 0 < x) ∧ (k * x < 0 ↔ x < 0) := by
  constructor
  · constructor
    · intro h; exact pos_of_mul' h (Int.le_of_lt hk)
    · intro h; exact Int.mul_pos hk h
  · constructor
    · intro h; apply Classical.byContradiction; intro c
      have := Int.mul_nonneg (Int.le_of_lt hk) (show 0 ≤ x by omega); omega
    · intro h; have := Int.mul_pos hk (show 0 < -x by omega); rw [Int.mul_neg] at this; omega
theorem cr_scale_r {k a b c d : Int} (hk : 0 < k) : cr a b (k * c) (k * d) = cr a b c d := by
  unfold cr; rw [cro_scale_r]; simp only [low_scale hk, (sign_scale hk).1, (sign_scale hk).2]
theorem cr_scale_l {k a b c d : Int} (hk : 0 < k) : cr (k * a) (k * b) c d = cr a b c d := by
  rw [cr_swap c d, cr_scale_r hk, cr_swap]; omega
theorem cr_same_r {k m a b c d c' d' : Int} (hk : 0 < k) (hm : 0 < m) (h1 : k * c' = m * c) (h2 : k * d' = m * d) : cr a b c' d' = cr a b c d := by
  rw [← cr_scale_r hk, h1, h2, cr_scale_r hm]
theorem L_scale {k a b : Int} (hk : 0 < k) : L (k * a) (k * b) = L a b := by unfold L; simp only [low_scale hk]

/-- Seen from a point c inside side i + 1: all the other sides. -/
def rest (n : Nat) (X Y : Nat → Int) (i : Nat) (cx cy : Int) : Int := sm (i + 2) (n - 1) (side X Y cx cy)

/-- A functional that is positive from both ends of a side is so from a point between. -/
theorem mid_pos {al be gx gy ax ay bx b_y cx cy zx zy : Int} (ha : 0 < al) (hb : 0 < be) (hx : (al + be) * cx = al * ax + be * bx) (hy : (al + be) * cy = al * ay + be * b_y)
    (h1 : 0 < gx * (zx - ax) + gy * (zy - ay)) (h2 : 0 ≤ gx * (zx - bx) + gy * (zy - b_y)) : 0 < gx * (zx - cx) + gy * (zy - cy) := by
  have e : (al + be) * (gx * (zx - cx) + gy * (zy - cy)) = al * (gx * (zx - ax) + gy * (zy - ay)) + be * (gx * (zx - bx) + gy * (zy - b_y)) := by grind
  have p1 := Int.mul_pos ha h1
  have p2 := Int.mul_nonneg (Int.le_of_lt hb) h2
  exact pos_of_mul' (a := al + be) (by rw [e]; omega) (by omega)

theorem rest_eq {n : Nat} {X Y : Nat → Int} (h : Simple n X Y) {i : Nat} {al be cx cy : Int} (ha : 0 < al) (hb : 0 < be)
    (hx : (al + be) * cx = al * X (i + 1) + be * X (i + 2)) (hy : (al + be) * cy = al * Y (i + 1) + be * Y (i + 2)) :
    wl n X Y i = rest n X Y i cx cy + 1 - L (X (i + 2) - X (i + 1)) (Y (i + 2) - Y (i + 1)) := by
  obtain ⟨m, rfl⟩ : ∃ m, n = m + 3 := ⟨n - 3, by have := h.n3; omega⟩
  have e1 : open_ (m + 3) X Y (i + 1) = sm (i + 2) (m + 1) (side X Y (X (i + 1)) (Y (i + 1))) := rfl
  have e2 : rest (m + 3) X Y i cx cy = sm (i + 2) (m + 1) (side X Y cx cy) + side X Y cx cy (i + 2 + (m + 1)) := rfl
  have c := sm_cells (lo := i + 2) (k := m + 1) (f := side X Y (X (i + 1)) (Y (i + 1))) (g := side X Y cx cy)
    (h := fun j => cr (X j - X (i + 1)) (Y j - Y (i + 1)) (X j - cx) (Y j - cy)) (fun j a b => cell (by
      by_cases e : j = i + 2
      · subst e
        obtain ⟨gx, gy, g1, g2⟩ := h.fwd (i + 1)
        simp only [Nat.add_assoc, Nat.reduceAdd] at g1 g2 ⊢
        have s1 : gx * (X (i + 3) - X (i + 1)) + gy * (Y (i + 3) - Y (i + 1)) = (gx * (X (i + 2) - X (i + 1)) + gy * (Y (i + 2) - Y (i + 1))) + (gx * (X (i + 3) - X (i + 2)) + gy * (Y (i + 3) - Y (i + 2))) := by grind
        exact ⟨gx, gy, g1, by omega, mid_pos ha hb hx hy g1 (by simp), mid_pos ha hb hx hy (by omega) (by omega)⟩
      · obtain ⟨gx, gy, g1, g2, g3, g4⟩ := h.sep (i + 1) j (by omega) (by omega)
        simp only [Nat.add_assoc, Nat.reduceAdd] at g3 g4
        exact ⟨gx, gy, g1, g2, mid_pos ha hb hx hy g1 (Int.le_of_lt g3), mid_pos ha hb hx hy g2 (Int.le_of_lt g4)⟩))
  have p1 : X (i + 2 + (m + 1)) = X i := by rw [show i + 2 + (m + 1) = i + (m + 3) from by omega]; exact h.px i
  have p2 : Y (i + 2 + (m + 1)) = Y i := by rw [show i + 2 + (m + 1) = i + (m + 3) from by omega]; exact h.py i
  have p3 : X (i + 2 + (m + 1) + 1) = X (i + 1) := by rw [show i + 2 + (m + 1) + 1 = i + 1 + (m + 3) from by omega]; exact h.px _
  have p4 : Y (i + 2 + (m + 1) + 1) = Y (i + 1) := by rw [show i + 2 + (m + 1) + 1 = i + 1 + (m + 3) from by omega]; exact h.py _
  have s2 : side X Y cx cy (i + 2 + (m + 1)) = cr (X i - cx) (Y i - cy) (X (i + 1) - cx) (Y (i + 1) - cy) := by unfold side; rw [p1, p2, p3, p4]
  rw [s2] at e2
  simp only [p1, p2] at c
  have z : cr (X (i + 2) - X (i + 1)) (Y (i + 2) - Y (i + 1)) (X (i + 2) - cx) (Y (i + 2) - cy) = 0 := by
    apply cr_zero; unfold cro
    have : (al + be) * ((X (i + 2) - X (i + 1)) * (Y (i + 2) - cy) - (Y (i + 2) - Y (i + 1)) * (X (i + 2) - cx)) = 0 := by grind
    rcases Int.mul_eq_zero.1 this with q | q <;> omega
  have fw : Fwd (X i - X (i + 1)) (Y i - Y (i + 1)) (X (i + 1) - cx) (Y (i + 1) - cy) := by
    obtain ⟨gx, gy, g1, g2⟩ := (h.fwd i).neg
    refine ⟨gx, gy, by rw [show X i - X (i + 1) = -(X (i + 1) - X i) from by omega, show Y i - Y (i + 1) = -(Y (i + 1) - Y i) from by omega]; exact g1, ?_⟩
    have e : (al + be) * (gx * (X (i + 1) - cx) + gy * (Y (i + 1) - cy)) = be * (gx * -(X (i + 2) - X (i + 1)) + gy * -(Y (i + 2) - Y (i + 1))) := by grind
    exact pos_of_mul' (a := al + be) (by rw [e]; exact Int.mul_pos hb g2) (by omega)
  have t1 := tri' fw (s := X i - cx) (t := Y i - cy) (by omega) (by omega)
  have sc : cr (X i - X (i + 1)) (Y i - Y (i + 1)) (X (i + 1) - cx) (Y (i + 1) - cy) = cr (X i - X (i + 1)) (Y i - Y (i + 1)) (-(X (i + 2) - X (i + 1))) (-(Y (i + 2) - Y (i + 1))) :=
    cr_same_r (k := al + be) (m := be) (by omega) hb (by grind) (by grind)
  unfold wl
  rw [show -(X (i + 1) - X i) = X i - X (i + 1) from by omega, show -(Y (i + 1) - Y i) = Y i - Y (i + 1) from by omega, ← sc]
  omega

/-- How often the polygon goes round a point. -/
def wn (n : Nat) (X Y : Nat → Int) (x y : Int) : Int := sm 0 n (side X Y x y)
theorem side_period {n : Nat} {X Y : Nat → Int} (px : ∀ i, X (i + n) = X i) (py : ∀ i, Y (i + n) = Y i) (x y : Int) (i : Nat) : side X Y x y (i + n) = side X Y x y i := by
  unfold side; rw [show i + n + 1 = i + 1 + n from by omega, px, py, px, py]
theorem wn_from {n : Nat} {X Y : Nat → Int} (px : ∀ i, X (i + n) = X i) (py : ∀ i, Y (i + n) = Y i) (x y : Int) (lo : Nat) : wn n X Y x y = sm lo n (side X Y x y) :=
  (sm_period (side_period px py x y) lo).symm

/-- Nothing but side i + 1 comes between a point and a point c inside that side, to the east at the same height. -/
theorem wn_near {n : Nat} {X Y : Nat → Int} (h : Simple n X Y) {i : Nat} {al be cx qx qy : Int} (ha : 0 < al) (hb : 0 < be)
    (hx : (al + be) * cx = al * X (i + 1) + be * X (i + 2)) (hy : (al + be) * qy = al * Y (i + 1) + be * Y (i + 2)) (hq : qx < cx)
    (g1 : Y (i + 1) ≠ qy) (g2 : Y (i + 2) ≠ qy)
    (hs : ∀ j, i + 2 ≤ j → j < i + 1 + n → Sep qx qy cx qy (X j) (Y j) (X (j + 1)) (Y (j + 1))) :
    (Y (i + 1) < Y (i + 2) → wn n X Y qx qy = wl n X Y i) ∧ (Y (i + 2) < Y (i + 1) → wn n X Y qx qy = wl n X Y i - 1) := by
  have n3 := h.n3
  have e := rest_eq h ha hb hx hy
  obtain ⟨m, rfl⟩ : ∃ m, n = m + 1 := ⟨n - 1, by omega⟩
  have e1 : wn (m + 1) X Y qx qy = sm (i + 2) m (side X Y qx qy) + side X Y qx qy (i + 2 + m) := wn_from h.px h.py qx qy (i + 2)
  have e2 : rest (m + 1) X Y i cx qy = sm (i + 2) m (side X Y cx qy) := rfl
  have c := sm_cells (lo := i + 2) (k := m) (f := side X Y qx qy) (g := side X Y cx qy)
    (h := fun j => cr (X j - qx) (Y j - qy) (X j - cx) (Y j - qy)) (fun j a b => cell (hs j a (by omega)))
  have p1 : X (i + 2 + m) = X (i + 1) := by rw [show i + 2 + m = i + 1 + (m + 1) from by omega]; exact h.px _
  have p2 : Y (i + 2 + m) = Y (i + 1) := by rw [show i + 2 + m = i + 1 + (m + 1) from by omega]; exact h.py _
  have p3 : X (i + 2 + m + 1) = X (i + 2) := by rw [show i + 2 + m + 1 = i + 2 + (m + 1) from by omega]; exact h.px _
  have p4 : Y (i + 2 + m + 1) = Y (i + 2) := by rw [show i + 2 + m + 1 = i + 2 + (m + 1) from by omega]; exact h.py _
  simp only [p1, p2] at c
  have z : ∀ u v w : Int, w ≠ 0 → cr u w v w = 0 := by
    intro u v w hw
    have : low u w ↔ low v w := by unfold low; omega
    unfold cr; simp only [this]
    split <;> rfl
  rw [z _ _ _ (by omega), z _ _ _ (by omega)] at c
  have s : side X Y qx qy (i + 2 + m) = cr (X (i + 1) - qx) (Y (i + 1) - qy) (X (i + 2) - qx) (Y (i + 2) - qy) := by unfold side; rw [p1, p2, p3, p4]
  rw [s] at e1
  -- the sign of the cross product
  have k : (al + be) * cro (X (i + 1) - qx) (Y (i + 1) - qy) (X (i + 2) - qx) (Y (i + 2) - qy) = (al + be) * ((cx - qx) * (Y (i + 2) - Y (i + 1))) := by unfold cro; grind
  have k' : cro (X (i + 1) - qx) (Y (i + 1) - qy) (X (i + 2) - qx) (Y (i + 2) - qy) = (cx - qx) * (Y (i + 2) - Y (i + 1)) := by
    rcases Int.mul_eq_mul_left_iff (show al + be ≠ 0 by omega) |>.1 k with q
    exact q
  constructor
  · intro up
    have b1 : Y (i + 1) < qy ∧ qy < Y (i + 2) := by
      constructor
      · apply Classical.byContradiction; intro c
        have := Int.mul_pos hb (show 0 < Y (i + 2) - qy by omega)
        have := Int.mul_nonneg (Int.le_of_lt ha) (show 0 ≤ Y (i + 1) - qy by omega)
        grind
      · apply Classical.byContradiction; intro c
        have := Int.mul_pos ha (show 0 < qy - Y (i + 1) by omega)
        have := Int.mul_nonneg (Int.le_of_lt hb) (show 0 ≤ qy - Y (i + 2) by omega)
        grind
    have v : cr (X (i + 1) - qx) (Y (i + 1) - qy) (X (i + 2) - qx) (Y (i + 2) - qy) = 1 := by
      unfold cr
      rw [if_pos (by unfold low; omega), if_neg (by unfold low; omega), if_pos]
      rw [k']; exact Int.mul_pos (by omega) (by omega)
    have l : L (X (i + 2) - X (i + 1)) (Y (i + 2) - Y (i + 1)) = 0 := by unfold L; rw [if_neg (by unfold low; omega)]
    omega
  · intro dn
    have b1 : Y (i + 2) < qy ∧ qy < Y (i + 1) := by
      constructor
      · apply Classical.byContradiction; intro c
        have := Int.mul_pos ha (show 0 < Y (i + 1) - qy by omega)
        have := Int.mul_nonneg (Int.le_of_lt hb) (show 0 ≤ Y (i + 2) - qy by omega)
        grind
      · apply Classical.byContradiction; intro c
        have := Int.mul_pos hb (show 0 < qy - Y (i + 2) by omega)
        have := Int.mul_nonneg (Int.le_of_lt ha) (show 0 ≤ qy - Y (i + 1) by omega)
        grind
    have v : cr (X (i + 1) - qx) (Y (i + 1) - qy) (X (i + 2) - qx) (Y (i + 2) - qy) = -1 := by
      unfold cr
      rw [if_neg (by unfold low; omega), if_pos (by unfold low; omega), if_pos]
      rw [k']
      have := Int.mul_pos (show 0 < cx - qx by omega) (show 0 < Y (i + 1) - Y (i + 2) by omega)
      have e3 : (cx - qx) * (Y (i + 1) - Y (i + 2)) = - ((cx - qx) * (Y (i + 2) - Y (i + 1))) := by rw [← Int.mul_neg]; congr 1; omega
      omega
    have l : L (X (i + 2) - X (i + 1)) (Y (i + 2) - Y (i + 1)) = 1 := by unfold L; rw [if_pos (by unfold low; omega)]
    omega

end Go.Proofs.Ytgdhgncdpmalcaa.Geo
