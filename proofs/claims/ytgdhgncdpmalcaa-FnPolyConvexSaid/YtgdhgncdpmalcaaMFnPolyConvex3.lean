/- Part 3 of what the proof of this law rests on: the functions of the translation as plain Lean functions with their walks, and the plain laws behind. -/
import Derived.Below
import Derived.LaidEqlPtr
import Derived.Lib.Builder
import Derived.Sort.LoopGhostIn
import Derived.Test.YtgdhgncdpmalcaaMFnPolyConvex2
namespace Go.Proofs.Ytgdhgncdpmalcaa.Q
open Go.RowKit Go.Proofs.YtgdhgncdpmalcaaW.PrintWords Go.Proofs.YtgdhgncdpmalcaaW.PrintLast Go.Proofs.YtgdhgncdpmalcaaW.PrintMore
attribute [local go_sem] max2_int min2_int max_two min_two max_three min_three max_four min_four
set_option linter.unusedVariables false
set_option linter.unusedSimpArgs false

/-! ### spec_l2On: function 50 -/
def spec_l2On.f (a0_0 : Int) (a0_1 : Int) (a1_0 : Int) (a1_1 : Int) (a2_0 : Int) (a2_1 : Int) : Option (Bool) := (spec_l2Step.f a0_0 a0_1 a1_0 a1_1).bind fun bt346 => ((spec_l2Step.f a0_0 a0_1 a2_0 a2_1).bind fun bt348 => ((spec_l2Cross.f bt346.1 bt346.2 bt348.1 bt348.2).bind fun t350 => (if t350 = 0 then ((spec_l6In.f a2_0 (mn a0_0 a1_0) (mx a0_0 a1_0)).bind fun t351 => (if t351 = true then ((spec_l6In.f a2_1 (mn a0_1 a1_1) (mx a0_1 a1_1)).bind fun t352 => (some t352)) else (some false))) else (some false))))
def spec_l2On.T1 : Bool × List (List Nat × List Nat) := (true, [([], []), ([], []), ([0, 1], [0, 1]), ([], []), ([], []), ([3, 4, 2], [3, 4]), ([2, 5, 5], [2, 5]), ([6], [6])])
def spec_l2On.B1 : List Nat := [0, 0, 3, 0, 0, 31, 63, 127]
theorem spec_l2On.tab1 : rtab .any (opsOf Try.f50 1) = spec_l2On.T1 := by kernel_rfl
theorem spec_l2On.bits1 : waitsOk spec_l2On.T1.2 spec_l2On.B1 = true := by kernel_rfl
set_option maxHeartbeats 8000000 in
set_option maxRecDepth 100000 in
theorem spec_l2On.calls (a0_0 : Int) (a0_1 : Int) (a1_0 : Int) (a1_1 : Int) (a2_0 : Int) (a2_1 : Int) (r : Bool) (w : World) (h : spec_l2On.f a0_0 a0_1 a1_0 a1_1 a2_0 a2_1 = some r) :
    Calls Try.prog 50 #[.agg #[.int .i64 a0_0, .int .i64 a0_1], .agg #[.int .i64 a1_0, .int .i64 a1_1], .agg #[.int .i64 a2_0, .int .i64 a2_1]] w fun e w' => e = .returned (.bool r) ∧ Below w.heap.size w w' := by
  have hu32 := Try.underlying32
  have HB := Aside0.mk (Below.refl w.heap.size w)
  have H : ((spec_l2Step.f a0_0 a0_1 a1_0 a1_1).bind fun bt346 => ((spec_l2Step.f a0_0 a0_1 a2_0 a2_1).bind fun bt348 => ((spec_l2Cross.f bt346.1 bt346.2 bt348.1 bt348.2).bind fun t350 => (if t350 = 0 then ((spec_l6In.f a2_0 (mn a0_0 a1_0) (mx a0_0 a1_0)).bind fun t351 => (if t351 = true then ((spec_l6In.f a2_1 (mn a0_1 a1_1) (mx a0_1 a1_1)).bind fun t352 => (some t352)) else (some false))) else (some false))))) = some r := h
  clear h
  replace H := Option.bind_eq_some_iff.mp H
  obtain ⟨⟨t346, t347⟩, A40, H⟩ := H
  replace H : ((spec_l2Step.f a0_0 a0_1 a2_0 a2_1).bind fun bt348 => ((spec_l2Cross.f t346 t347 bt348.1 bt348.2).bind fun t350 => (if t350 = 0 then ((spec_l6In.f a2_0 (mn a0_0 a1_0) (mx a0_0 a1_0)).bind fun t351 => (if t351 = true then ((spec_l6In.f a2_1 (mn a0_1 a1_1) (mx a0_1 a1_1)).bind fun t352 => (some t352)) else (some false))) else (some false)))) = some r := H
  have A4 := Aside0.mk A40
  clear A40
  replace H := Option.bind_eq_some_iff.mp H
  obtain ⟨⟨t348, t349⟩, A50, H⟩ := H
  replace H : ((spec_l2Cross.f t346 t347 t348 t349).bind fun t350 => (if t350 = 0 then ((spec_l6In.f a2_0 (mn a0_0 a1_0) (mx a0_0 a1_0)).bind fun t351 => (if t351 = true then ((spec_l6In.f a2_1 (mn a0_1 a1_1) (mx a0_1 a1_1)).bind fun t352 => (some t352)) else (some false))) else (some false))) = some r := H
  have A5 := Aside0.mk A50
  clear A50
  replace H := Option.bind_eq_some_iff.mp H
  obtain ⟨t350, A60, H⟩ := H
  replace H : (if t350 = 0 then ((spec_l6In.f a2_0 (mn a0_0 a1_0) (mx a0_0 a1_0)).bind fun t351 => (if t351 = true then ((spec_l6In.f a2_1 (mn a0_1 a1_1) (mx a0_1 a1_1)).bind fun t352 => (some t352)) else (some false))) else (some false)) = some r := H
  have A6 := Aside0.mk A60
  clear A60
  by_cases c7 : t350 = 0
  · rw [if_pos c7] at H
    have c7b0 : (t350 == 0) = true := beq_iff_eq.mpr c7
    have c7b1 : (t350 != 0) = false := bne_eq_false_iff_eq.mpr c7
    clear c7
    obtain ⟨ji8, hji8⟩ : ∃ j_ : Int, (mn a0_0 a1_0) = j_ := ⟨_, rfl⟩
    replace H : ((spec_l6In.f a2_0 (ji8) (mx a0_0 a1_0)).bind fun t351 => (if t351 = true then ((spec_l6In.f a2_1 (mn a0_1 a1_1) (mx a0_1 a1_1)).bind fun t352 => (some t352)) else (some false))) = some r := by first | (rw [hji8] at H; exact H) | (simp only [hji8] at H ⊢; exact H)
    (try rw [hji8] at A4)
    (try rw [hji8] at A5)
    (try rw [hji8] at A6)
    have hji8_ : (if a1_0 < a0_0 then a1_0 else a0_0) = ji8 := hji8
    obtain ⟨ji9, hji9⟩ : ∃ j_ : Int, (mx a0_0 a1_0) = j_ := ⟨_, rfl⟩
    replace H : ((spec_l6In.f a2_0 (ji8) (ji9)).bind fun t351 => (if t351 = true then ((spec_l6In.f a2_1 (mn a0_1 a1_1) (mx a0_1 a1_1)).bind fun t352 => (some t352)) else (some false))) = some r := by first | (rw [hji9] at H; exact H) | (simp only [hji9] at H ⊢; exact H)
    (try rw [hji9] at A4)
    (try rw [hji9] at A5)
    (try rw [hji9] at A6)
    have hji9_ : (if a0_0 < a1_0 then a1_0 else a0_0) = ji9 := hji9
    replace H := Option.bind_eq_some_iff.mp H
    obtain ⟨t351, A100, H⟩ := H
    replace H : (if t351 = true then ((spec_l6In.f a2_1 (mn a0_1 a1_1) (mx a0_1 a1_1)).bind fun t352 => (some t352)) else (some false)) = some r := H
    have A10 := Aside0.mk A100
    clear A100
    by_cases c11 : t351 = true
    · subst c11
      have H1 : ((spec_l6In.f a2_1 (mn a0_1 a1_1) (mx a0_1 a1_1)).bind fun t352 => (some t352)) = some r := by rw [if_pos rfl] at H; exact H
      clear H
      have H := H1
      clear H1
      obtain ⟨ji12, hji12⟩ : ∃ j_ : Int, (mn a0_1 a1_1) = j_ := ⟨_, rfl⟩
      replace H : ((spec_l6In.f a2_1 (ji12) (mx a0_1 a1_1)).bind fun t352 => (some t352)) = some r := by first | (rw [hji12] at H; exact H) | (simp only [hji12] at H ⊢; exact H)
      (try rw [hji12] at A4)
      (try rw [hji12] at A5)
      (try rw [hji12] at A6)
      (try rw [hji12] at A10)
      have hji12_ : (if a1_1 < a0_1 then a1_1 else a0_1) = ji12 := hji12
      obtain ⟨ji13, hji13⟩ : ∃ j_ : Int, (mx a0_1 a1_1) = j_ := ⟨_, rfl⟩
      replace H : ((spec_l6In.f a2_1 (ji12) (ji13)).bind fun t352 => (some t352)) = some r := by first | (rw [hji13] at H; exact H) | (simp only [hji13] at H ⊢; exact H)
      (try rw [hji13] at A4)
      (try rw [hji13] at A5)
      (try rw [hji13] at A6)
      (try rw [hji13] at A10)
      have hji13_ : (if a0_1 < a1_1 then a1_1 else a0_1) = ji13 := hji13
      replace H := Option.bind_eq_some_iff.mp H
      obtain ⟨t352, A140, H⟩ := H
      replace H : (some t352) = some r := H
      have A14 := Aside0.mk A140
      clear A140
      obtain rfl := Option.some.inj H
      go_enter Try.func50, Try.ntmps50
      try go_wp2_with (first | ((with_reducible refine gate_dst (N := 3) rfl ?_); (try (refine gate_guard (by rfl) ?_; dsimp only)); refine box_event ?hg (N := 3) ?hd (cs := #[.int .i64 a0_0, .int .i64 a0_1]) (t := 32) ?hr ?_; (case hd => rfl); (case hg => rfl); (case hr => exact qq23); intro gb343 hg w15 hbox hb; have n0_ := Aside0.mk (below_step qq1 hb); have n1_ := Aside0.mk (hbox); have n2_ := Aside0.mk ((qq34 : w.heap.size ≤ gb343)); have n3_ := Aside0.mk ((qq34 : w.heap.size ≤ gb343)); clear HB; have HB := n0_; have BK343 := n1_; have GW343 := n2_; have GE343 := n3_; clear n0_ n1_ n2_ n3_; clear hb hbox hg) | ((with_reducible refine gate_dst (N := 4) rfl ?_); (try (refine gate_guard (by rfl) ?_; dsimp only)); refine box_event ?hg (N := 4) ?hd (cs := #[.int .i64 a1_0, .int .i64 a1_1]) (t := 32) ?hr ?_; (case hd => rfl); (case hg => rfl); (case hr => exact qq23); intro gb344 hg w16 hbox hb; have n0_ := Aside0.mk (bbl_ BK343.out hb); have n1_ := Aside0.mk (below_step (qq6 HB.out GE343.out) hb); have n2_ := Aside0.mk (hbox); have n3_ := Aside0.mk ((qq36 HB.out GE343.out : w.heap.size ≤ gb344)); have n4_ := Aside0.mk ((qq36 HB.out GE343.out : w.heap.size ≤ gb344)); have n5_ := Aside0.mk ((qq27 BK343.out : gb343 ≠ gb344)); have n6_ := Aside0.mk ((qq28 BK343.out : gb344 ≠ gb343)); clear BK343; clear HB; have BK343 := n0_; have HB := n1_; have BK344 := n2_; have GW344 := n3_; have GE344 := n4_; have NB343_344 := n5_; have NB344_343 := n6_; clear n0_ n1_ n2_ n3_ n4_ n5_ n6_; clear hb hbox hg) | ((with_reducible refine gate_dst (N := 5) rfl ?_); (try (refine gate_guard (by rfl) ?_; dsimp only)); refine box_event ?hg (N := 5) ?hd (cs := #[.int .i64 a2_0, .int .i64 a2_1]) (t := 32) ?hr ?_; (case hd => rfl); (case hg => rfl); (case hr => exact qq23); intro gb345 hg w17 hbox hb; have n0_ := Aside0.mk (bbl_ BK343.out hb); have n1_ := Aside0.mk (bbl_ BK344.out hb); have n2_ := Aside0.mk (below_step (qq12 HB.out GE343.out GE344.out) hb); have n3_ := Aside0.mk (hbox); have n4_ := Aside0.mk ((qq47 HB.out GE343.out GE344.out : w.heap.size ≤ gb345)); have n5_ := Aside0.mk ((qq47 HB.out GE343.out GE344.out : w.heap.size ≤ gb345)); have n6_ := Aside0.mk ((qq27 BK343.out : gb343 ≠ gb345)); have n7_ := Aside0.mk ((qq28 BK343.out : gb345 ≠ gb343)); have n8_ := Aside0.mk ((qq27 BK344.out : gb344 ≠ gb345)); have n9_ := Aside0.mk ((qq28 BK344.out : gb345 ≠ gb344)); clear BK343; clear BK344; clear HB; have BK343 := n0_; have BK344 := n1_; have HB := n2_; have BK345 := n3_; have GW345 := n4_; have GE345 := n5_; have NB343_345 := n6_; have NB345_343 := n7_; have NB344_345 := n8_; have NB345_344 := n9_; clear n0_ n1_ n2_ n3_ n4_ n5_ n6_ n7_ n8_ n9_; clear hb hbox hg))
      have n0_ := Aside0.mk (blk_drew BK343.out)
      have n1_ := Aside0.mk (blk_drew BK344.out)
      have n2_ := Aside0.mk (blk_drew BK345.out)
      have n3_ := Aside0.mk (below_drew1 HB.out)
      clear BK343
      clear BK344
      clear BK345
      clear HB
      have BK343 := n0_
      have BK344 := n1_
      have BK345 := n2_
      have HB := n3_
      clear n0_ n1_ n2_ n3_
      refine start_ (n := 8) (S := fun w' => w'.cell? ⟨gb343, 0, none⟩ = some (.int .i64 a0_0) ∧ w'.cell? ⟨gb343, 1, none⟩ = some (.int .i64 a0_1) ∧ w'.cell? ⟨gb344, 0, none⟩ = some (.int .i64 a1_0) ∧ w'.cell? ⟨gb344, 1, none⟩ = some (.int .i64 a1_1) ∧ w'.cell? ⟨gb345, 0, none⟩ = some (.int .i64 a2_0) ∧ w'.cell? ⟨gb345, 1, none⟩ = some (.int .i64 a2_1)) (ds := []) #[false, false, false, false, false, false, false, false] (by kernel_rfl) rfl rfl ⟨(blk_cell BK343.out 0).trans rfl, (blk_cell BK343.out 1).trans rfl, (blk_cell BK344.out 0).trans rfl, (blk_cell BK344.out 1).trans rfl, (blk_cell BK345.out 0).trans rfl, (blk_cell BK345.out 1).trans rfl⟩ (fun hHeld => ?_); refine with_tabW spec_l2On.tab1 spec_l2On.bits1 (fun HT_ HW_ => ?_)
      generalize w17.drew = w18 at BK343 BK344 BK345 HB hHeld ⊢
      refine take_ (i := 0) (N := some 7) (v := ?_) (a' := ?_) #[true, false, false, false, false, false, false, false] rfl rfl (take_ofW HT_.out HW_.out (by kernel_rfl)) (fun _ _ _ h => h) (Or.inl ⟨by rfl, ?_⟩) hHeld ?_ ?_
      rotate_left
      · rintro w' ⟨s0, s1, s2, s3, s4, s5⟩
        go_simp
        with_reducible rfl
      rotate_left
      · simp only [Act.put, List.setIfInBounds_toArray, List.set_cons_zero, List.set_cons_succ, i64_w, i32_w]
        rfl
      refine take_ (i := 1) (N := some 8) (v := ?_) (a' := ?_) #[true, true, false, false, false, false, false, false] rfl rfl (take_ofW HT_.out HW_.out (by kernel_rfl)) (fun _ _ _ h => h) (Or.inl ⟨by rfl, ?_⟩) hHeld ?_ ?_
      rotate_left
      · rintro w' ⟨s0, s1, s2, s3, s4, s5⟩
        go_simp
        with_reducible rfl
      rotate_left
      · simp only [Act.put, List.setIfInBounds_toArray, List.set_cons_zero, List.set_cons_succ, i64_w, i32_w]
        rfl
      refine take_ (i := 3) (N := some 10) (v := ?_) (a' := ?_) #[true, true, false, true, false, false, false, false] rfl rfl (take_ofW HT_.out HW_.out (by kernel_rfl)) (fun _ _ _ h => h) (Or.inl ⟨by rfl, ?_⟩) hHeld ?_ ?_
      rotate_left
      · rintro w' ⟨s0, s1, s2, s3, s4, s5⟩
        go_simp
        with_reducible rfl
      rotate_left
      · simp only [Act.put, List.setIfInBounds_toArray, List.set_cons_zero, List.set_cons_succ, i64_w, i32_w]
        rfl
      refine take_ (i := 4) (N := some 11) (v := ?_) (a' := ?_) #[true, true, false, true, true, false, false, false] rfl rfl (take_ofW HT_.out HW_.out (by kernel_rfl)) (fun _ _ _ h => h) (Or.inl ⟨by rfl, ?_⟩) hHeld ?_ ?_
      rotate_left
      · rintro w' ⟨s0, s1, s2, s3, s4, s5⟩
        go_simp
        with_reducible rfl
      rotate_left
      · simp only [Act.put, List.setIfInBounds_toArray, List.set_cons_zero, List.set_cons_succ, i64_w, i32_w]
        rfl
      refine one_ (i := 2) (N := some 9) #[true, true, true, true, true, false, false, false] rfl rfl (one_of HT_.out (by kernel_rfl)) (by decide) (fun K hK => ?_)
      refine goes_ Try.func77 (by kernel_rfl) rfl #[.agg #[.int .i64 a0_0, .int .i64 a0_1], .agg #[.int .i64 a1_0, .int .i64 a1_1]] (by rfl) rfl rfl qq3 ?_
      with_reducible refine (spec_l2Step.calls a0_0 a0_1 a1_0 a1_1 t346 t347 _ A4.out).mono ?_
      rintro e w19 ⟨rfl, hb⟩
      refine ⟨_, rfl, ?_⟩
      have n0_ := Aside0.mk (bbl_ BK343.out hb)
      have n1_ := Aside0.mk (bbl_ BK344.out hb)
      have n2_ := Aside0.mk (bbl_ BK345.out hb)
      have n3_ := Aside0.mk (below_step (qq8 HB.out GE343.out GE344.out GE345.out) hb)
      clear BK343
      clear BK344
      clear BK345
      clear HB
      have BK343 := n0_
      have BK344 := n1_
      have BK345 := n2_
      have HB := n3_
      clear n0_ n1_ n2_ n3_
      (try clear hb)
      (try clear hb2)
      (try clear hk)
      (try clear hi)
      refine hK.out _ _ ⟨(blk_cell BK343.out 0).trans rfl, (blk_cell BK343.out 1).trans rfl, (blk_cell BK344.out 0).trans rfl, (blk_cell BK344.out 1).trans rfl, (blk_cell BK345.out 0).trans rfl, (blk_cell BK345.out 1).trans rfl⟩ (fun hHeld => ?_)
      clear hK K
      refine norm_ (a' := ?_) ?_ ?_
      rotate_left
      · show Act.put _ (some 9) _ = _
        simp only [Act.put, List.setIfInBounds_toArray, List.set_cons_zero, List.set_cons_succ, i64_w, i32_w]
        rfl
      refine one_ (i := 5) (N := some 12) #[true, true, true, true, true, true, false, false] rfl rfl (one_of HT_.out (by kernel_rfl)) (by decide) (fun K hK => ?_)
      refine goes_ Try.func77 (by kernel_rfl) rfl #[.agg #[.int .i64 a0_0, .int .i64 a0_1], .agg #[.int .i64 a2_0, .int .i64 a2_1]] (by rfl) rfl rfl qq3 ?_
      with_reducible refine (spec_l2Step.calls a0_0 a0_1 a2_0 a2_1 t348 t349 _ A5.out).mono ?_
      rintro e w20 ⟨rfl, hb⟩
      refine ⟨_, rfl, ?_⟩
      have n0_ := Aside0.mk (bbl_ BK343.out hb)
      have n1_ := Aside0.mk (bbl_ BK344.out hb)
      have n2_ := Aside0.mk (bbl_ BK345.out hb)
      have n3_ := Aside0.mk (below_step (qq8 HB.out GE343.out GE344.out GE345.out) hb)
      clear BK343
      clear BK344
      clear BK345
      clear HB
      have BK343 := n0_
      have BK344 := n1_
      have BK345 := n2_
      have HB := n3_
      clear n0_ n1_ n2_ n3_
      (try clear hb)
      (try clear hb2)
      (try clear hk)
      (try clear hi)
      refine hK.out _ _ ⟨(blk_cell BK343.out 0).trans rfl, (blk_cell BK343.out 1).trans rfl, (blk_cell BK344.out 0).trans rfl, (blk_cell BK344.out 1).trans rfl, (blk_cell BK345.out 0).trans rfl, (blk_cell BK345.out 1).trans rfl⟩ (fun hHeld => ?_)
      clear hK K
      refine norm_ (a' := ?_) ?_ ?_
      rotate_left
      · show Act.put _ (some 12) _ = _
        simp only [Act.put, List.setIfInBounds_toArray, List.set_cons_zero, List.set_cons_succ, i64_w, i32_w]
        rfl
      refine one_ (i := 6) (N := some 13) #[true, true, true, true, true, true, true, false] rfl rfl (one_of HT_.out (by kernel_rfl)) (by decide) (fun K hK => ?_)
      refine goes_ Try.func75 (by kernel_rfl) rfl #[.agg #[.int .i64 t346, .int .i64 t347], .agg #[.int .i64 t348, .int .i64 t349]] (by rfl) rfl rfl qq3 ?_
      with_reducible refine (spec_l2Cross.calls t346 t347 t348 t349 t350 _ A6.out).mono ?_
      rintro e w21 ⟨rfl, hb⟩
      refine ⟨_, rfl, ?_⟩
      have n0_ := Aside0.mk (bbl_ BK343.out hb)
      have n1_ := Aside0.mk (bbl_ BK344.out hb)
      have n2_ := Aside0.mk (bbl_ BK345.out hb)
      have n3_ := Aside0.mk (below_step (qq8 HB.out GE343.out GE344.out GE345.out) hb)
      clear BK343
      clear BK344
      clear BK345
      clear HB
      have BK343 := n0_
      have BK344 := n1_
      have BK345 := n2_
      have HB := n3_
      clear n0_ n1_ n2_ n3_
      (try clear hb)
      (try clear hb2)
      (try clear hk)
      (try clear hi)
      refine hK.out _ _ ⟨(blk_cell BK343.out 0).trans rfl, (blk_cell BK343.out 1).trans rfl, (blk_cell BK344.out 0).trans rfl, (blk_cell BK344.out 1).trans rfl, (blk_cell BK345.out 0).trans rfl, (blk_cell BK345.out 1).trans rfl⟩ (fun hHeld => ?_)
      clear hK K
      refine norm_ (a' := ?_) ?_ ?_
      rotate_left
      · show Act.put _ (some 13) _ = _
        simp only [Act.put, List.setIfInBounds_toArray, List.set_cons_zero, List.set_cons_succ, i64_w, i32_w]
        rfl
      refine pure_ (i := 7) (N := some 14) #[true, true, true, true, true, true, true, true] rfl rfl (any_of HT_.out (by kernel_rfl)) (fun _ _ _ h => h) (Or.inl ⟨by rfl, pA_⟩) pB_ ?_
      refine done_ (done_of HT_.out (by kernel_rfl)) ?_
      have hnb22 := NB345_343.out
      have hnc22 := NB343_345.out
      have hnb23 := NB345_344.out
      have hnc23 := NB344_345.out
      have hcz24_0 : w21.cell? ⟨gb345, 0, none⟩ = some (.int .i64 a2_0) := (blk_cell BK345.out 0).trans rfl
      have hcz24_1 : w21.cell? ⟨gb345, 1, none⟩ = some (.int .i64 a2_1) := (blk_cell BK345.out 1).trans rfl
      have hfz24_0 := blk_frozen BK345.out 0
      have hfz24_1 := blk_frozen BK345.out 1
      have hnb25 := NB343_344.out
      have hnc25 := NB344_343.out
      have hcz26_0 : w21.cell? ⟨gb343, 0, none⟩ = some (.int .i64 a0_0) := (blk_cell BK343.out 0).trans rfl
      have hcz26_1 : w21.cell? ⟨gb343, 1, none⟩ = some (.int .i64 a0_1) := (blk_cell BK343.out 1).trans rfl
      have hfz26_0 := blk_frozen BK343.out 0
      have hfz26_1 := blk_frozen BK343.out 1
      have hcz27_0 : w21.cell? ⟨gb344, 0, none⟩ = some (.int .i64 a1_0) := (blk_cell BK344.out 0).trans rfl
      have hcz27_1 : w21.cell? ⟨gb344, 1, none⟩ = some (.int .i64 a1_1) := (blk_cell BK344.out 1).trans rfl
      have hfz27_0 := blk_frozen BK344.out 0
      have hfz27_1 := blk_frozen BK344.out 1
      try go_wp2_with (first | ((with_reducible refine gate_callee (f := 67) rfl ?_); refine goesL_ (some 27) rfl rfl Try.func67 (by kernel_rfl) rfl #[.int .i64 a2_0, .int .i64 ji8, .int .i64 ji9] rfl qq68 ?_; (with_reducible refine (spec_l6In.calls a2_0 ji8 ji9 true _ A10.out).mono ?_); rintro e w' ⟨rfl, ⟨nd, rfl⟩⟩; refine ⟨_, rfl, ?_⟩) | (go_at_call 67; (with_reducible refine (spec_l6In.calls a2_1 ji12 ji13 t352 _ A14.out).mono ?_); rintro e w' ⟨rfl, ⟨nd, rfl⟩⟩))
      go_ret
      exact ⟨by first | rfl | (simp [errW_none, errW_some] <;> rfl) | (simp only [← hji8, ← hji9, ← hji12, ← hji13]; first | rfl | (simp [errW_none, errW_some] <;> rfl)) | (simp [*, errW_none, errW_some] <;> rfl), qq8 HB.out GE343.out GE344.out GE345.out⟩
    · replace c11 := Bool.eq_false_iff.mpr c11
      subst c11
      have H1 : (some false) = some r := by rw [if_neg (show ¬ (false = true) by decide)] at H; exact H
      clear H
      have H := H1
      clear H1
      obtain rfl := Option.some.inj H
      go_enter Try.func50, Try.ntmps50
      try go_wp2_with (first | ((with_reducible refine gate_dst (N := 3) rfl ?_); (try (refine gate_guard (by rfl) ?_; dsimp only)); refine box_event ?hg (N := 3) ?hd (cs := #[.int .i64 a0_0, .int .i64 a0_1]) (t := 32) ?hr ?_; (case hd => rfl); (case hg => rfl); (case hr => exact qq23); intro gb343 hg w28 hbox hb; have n0_ := Aside0.mk (below_step qq1 hb); have n1_ := Aside0.mk (hbox); have n2_ := Aside0.mk ((qq34 : w.heap.size ≤ gb343)); have n3_ := Aside0.mk ((qq34 : w.heap.size ≤ gb343)); clear HB; have HB := n0_; have BK343 := n1_; have GW343 := n2_; have GE343 := n3_; clear n0_ n1_ n2_ n3_; clear hb hbox hg) | ((with_reducible refine gate_dst (N := 4) rfl ?_); (try (refine gate_guard (by rfl) ?_; dsimp only)); refine box_event ?hg (N := 4) ?hd (cs := #[.int .i64 a1_0, .int .i64 a1_1]) (t := 32) ?hr ?_; (case hd => rfl); (case hg => rfl); (case hr => exact qq23); intro gb344 hg w29 hbox hb; have n0_ := Aside0.mk (bbl_ BK343.out hb); have n1_ := Aside0.mk (below_step (qq6 HB.out GE343.out) hb); have n2_ := Aside0.mk (hbox); have n3_ := Aside0.mk ((qq36 HB.out GE343.out : w.heap.size ≤ gb344)); have n4_ := Aside0.mk ((qq36 HB.out GE343.out : w.heap.size ≤ gb344)); have n5_ := Aside0.mk ((qq27 BK343.out : gb343 ≠ gb344)); have n6_ := Aside0.mk ((qq28 BK343.out : gb344 ≠ gb343)); clear BK343; clear HB; have BK343 := n0_; have HB := n1_; have BK344 := n2_; have GW344 := n3_; have GE344 := n4_; have NB343_344 := n5_; have NB344_343 := n6_; clear n0_ n1_ n2_ n3_ n4_ n5_ n6_; clear hb hbox hg) | ((with_reducible refine gate_dst (N := 5) rfl ?_); (try (refine gate_guard (by rfl) ?_; dsimp only)); refine box_event ?hg (N := 5) ?hd (cs := #[.int .i64 a2_0, .int .i64 a2_1]) (t := 32) ?hr ?_; (case hd => rfl); (case hg => rfl); (case hr => exact qq23); intro gb345 hg w30 hbox hb; have n0_ := Aside0.mk (bbl_ BK343.out hb); have n1_ := Aside0.mk (bbl_ BK344.out hb); have n2_ := Aside0.mk (below_step (qq12 HB.out GE343.out GE344.out) hb); have n3_ := Aside0.mk (hbox); have n4_ := Aside0.mk ((qq47 HB.out GE343.out GE344.out : w.heap.size ≤ gb345)); have n5_ := Aside0.mk ((qq47 HB.out GE343.out GE344.out : w.heap.size ≤ gb345)); have n6_ := Aside0.mk ((qq27 BK343.out : gb343 ≠ gb345)); have n7_ := Aside0.mk ((qq28 BK343.out : gb345 ≠ gb343)); have n8_ := Aside0.mk ((qq27 BK344.out : gb344 ≠ gb345)); have n9_ := Aside0.mk ((qq28 BK344.out : gb345 ≠ gb344)); clear BK343; clear BK344; clear HB; have BK343 := n0_; have BK344 := n1_; have HB := n2_; have BK345 := n3_; have GW345 := n4_; have GE345 := n5_; have NB343_345 := n6_; have NB345_343 := n7_; have NB344_345 := n8_; have NB345_344 := n9_; clear n0_ n1_ n2_ n3_ n4_ n5_ n6_ n7_ n8_ n9_; clear hb hbox hg))
      have n0_ := Aside0.mk (blk_drew BK343.out)
      have n1_ := Aside0.mk (blk_drew BK344.out)
      have n2_ := Aside0.mk (blk_drew BK345.out)
      have n3_ := Aside0.mk (below_drew1 HB.out)
      clear BK343
      clear BK344
      clear BK345
      clear HB
      have BK343 := n0_
      have BK344 := n1_
      have BK345 := n2_
      have HB := n3_
      clear n0_ n1_ n2_ n3_
      refine start_ (n := 8) (S := fun w' => w'.cell? ⟨gb343, 0, none⟩ = some (.int .i64 a0_0) ∧ w'.cell? ⟨gb343, 1, none⟩ = some (.int .i64 a0_1) ∧ w'.cell? ⟨gb344, 0, none⟩ = some (.int .i64 a1_0) ∧ w'.cell? ⟨gb344, 1, none⟩ = some (.int .i64 a1_1) ∧ w'.cell? ⟨gb345, 0, none⟩ = some (.int .i64 a2_0) ∧ w'.cell? ⟨gb345, 1, none⟩ = some (.int .i64 a2_1)) (ds := []) #[false, false, false, false, false, false, false, false] (by kernel_rfl) rfl rfl ⟨(blk_cell BK343.out 0).trans rfl, (blk_cell BK343.out 1).trans rfl, (blk_cell BK344.out 0).trans rfl, (blk_cell BK344.out 1).trans rfl, (blk_cell BK345.out 0).trans rfl, (blk_cell BK345.out 1).trans rfl⟩ (fun hHeld => ?_); refine with_tabW spec_l2On.tab1 spec_l2On.bits1 (fun HT_ HW_ => ?_)
      generalize w30.drew = w31 at BK343 BK344 BK345 HB hHeld ⊢
      refine take_ (i := 0) (N := some 7) (v := ?_) (a' := ?_) #[true, false, false, false, false, false, false, false] rfl rfl (take_ofW HT_.out HW_.out (by kernel_rfl)) (fun _ _ _ h => h) (Or.inl ⟨by rfl, ?_⟩) hHeld ?_ ?_
      rotate_left
      · rintro w' ⟨s0, s1, s2, s3, s4, s5⟩
        go_simp
        with_reducible rfl
      rotate_left
      · simp only [Act.put, List.setIfInBounds_toArray, List.set_cons_zero, List.set_cons_succ, i64_w, i32_w]
        rfl
      refine take_ (i := 1) (N := some 8) (v := ?_) (a' := ?_) #[true, true, false, false, false, false, false, false] rfl rfl (take_ofW HT_.out HW_.out (by kernel_rfl)) (fun _ _ _ h => h) (Or.inl ⟨by rfl, ?_⟩) hHeld ?_ ?_
      rotate_left
      · rintro w' ⟨s0, s1, s2, s3, s4, s5⟩
        go_simp
        with_reducible rfl
      rotate_left
      · simp only [Act.put, List.setIfInBounds_toArray, List.set_cons_zero, List.set_cons_succ, i64_w, i32_w]
        rfl
      refine take_ (i := 3) (N := some 10) (v := ?_) (a' := ?_) #[true, true, false, true, false, false, false, false] rfl rfl (take_ofW HT_.out HW_.out (by kernel_rfl)) (fun _ _ _ h => h) (Or.inl ⟨by rfl, ?_⟩) hHeld ?_ ?_
      rotate_left
      · rintro w' ⟨s0, s1, s2, s3, s4, s5⟩
        go_simp
        with_reducible rfl
      rotate_left
      · simp only [Act.put, List.setIfInBounds_toArray, List.set_cons_zero, List.set_cons_succ, i64_w, i32_w]
        rfl
      refine take_ (i := 4) (N := some 11) (v := ?_) (a' := ?_) #[true, true, false, true, true, false, false, false] rfl rfl (take_ofW HT_.out HW_.out (by kernel_rfl)) (fun _ _ _ h => h) (Or.inl ⟨by rfl, ?_⟩) hHeld ?_ ?_
      rotate_left
      · rintro w' ⟨s0, s1, s2, s3, s4, s5⟩
        go_simp
        with_reducible rfl
      rotate_left
      · simp only [Act.put, List.setIfInBounds_toArray, List.set_cons_zero, List.set_cons_succ, i64_w, i32_w]
        rfl
      refine one_ (i := 2) (N := some 9) #[true, true, true, true, true, false, false, false] rfl rfl (one_of HT_.out (by kernel_rfl)) (by decide) (fun K hK => ?_)
      refine goes_ Try.func77 (by kernel_rfl) rfl #[.agg #[.int .i64 a0_0, .int .i64 a0_1], .agg #[.int .i64 a1_0, .int .i64 a1_1]] (by rfl) rfl rfl qq3 ?_
      with_reducible refine (spec_l2Step.calls a0_0 a0_1 a1_0 a1_1 t346 t347 _ A4.out).mono ?_
      rintro e w32 ⟨rfl, hb⟩
      refine ⟨_, rfl, ?_⟩
      have n0_ := Aside0.mk (bbl_ BK343.out hb)
      have n1_ := Aside0.mk (bbl_ BK344.out hb)
      have n2_ := Aside0.mk (bbl_ BK345.out hb)
      have n3_ := Aside0.mk (below_step (qq8 HB.out GE343.out GE344.out GE345.out) hb)
      clear BK343
      clear BK344
      clear BK345
      clear HB
      have BK343 := n0_
      have BK344 := n1_
      have BK345 := n2_
      have HB := n3_
      clear n0_ n1_ n2_ n3_
      (try clear hb)
      (try clear hb2)
      (try clear hk)
      (try clear hi)
      refine hK.out _ _ ⟨(blk_cell BK343.out 0).trans rfl, (blk_cell BK343.out 1).trans rfl, (blk_cell BK344.out 0).trans rfl, (blk_cell BK344.out 1).trans rfl, (blk_cell BK345.out 0).trans rfl, (blk_cell BK345.out 1).trans rfl⟩ (fun hHeld => ?_)
      clear hK K
      refine norm_ (a' := ?_) ?_ ?_
      rotate_left
      · show Act.put _ (some 9) _ = _
        simp only [Act.put, List.setIfInBounds_toArray, List.set_cons_zero, List.set_cons_succ, i64_w, i32_w]
        rfl
      refine one_ (i := 5) (N := some 12) #[true, true, true, true, true, true, false, false] rfl rfl (one_of HT_.out (by kernel_rfl)) (by decide) (fun K hK => ?_)
      refine goes_ Try.func77 (by kernel_rfl) rfl #[.agg #[.int .i64 a0_0, .int .i64 a0_1], .agg #[.int .i64 a2_0, .int .i64 a2_1]] (by rfl) rfl rfl qq3 ?_
      with_reducible refine (spec_l2Step.calls a0_0 a0_1 a2_0 a2_1 t348 t349 _ A5.out).mono ?_
      rintro e w33 ⟨rfl, hb⟩
      refine ⟨_, rfl, ?_⟩
      have n0_ := Aside0.mk (bbl_ BK343.out hb)
      have n1_ := Aside0.mk (bbl_ BK344.out hb)
      have n2_ := Aside0.mk (bbl_ BK345.out hb)
      have n3_ := Aside0.mk (below_step (qq8 HB.out GE343.out GE344.out GE345.out) hb)
      clear BK343
      clear BK344
      clear BK345
      clear HB
      have BK343 := n0_
      have BK344 := n1_
      have BK345 := n2_
      have HB := n3_
      clear n0_ n1_ n2_ n3_
      (try clear hb)
      (try clear hb2)
      (try clear hk)
      (try clear hi)
      refine hK.out _ _ ⟨(blk_cell BK343.out 0).trans rfl, (blk_cell BK343.out 1).trans rfl, (blk_cell BK344.out 0).trans rfl, (blk_cell BK344.out 1).trans rfl, (blk_cell BK345.out 0).trans rfl, (blk_cell BK345.out 1).trans rfl⟩ (fun hHeld => ?_)
      clear hK K
      refine norm_ (a' := ?_) ?_ ?_
      rotate_left
      · show Act.put _ (some 12) _ = _
        simp only [Act.put, List.setIfInBounds_toArray, List.set_cons_zero, List.set_cons_succ, i64_w, i32_w]
        rfl
      refine one_ (i := 6) (N := some 13) #[true, true, true, true, true, true, true, false] rfl rfl (one_of HT_.out (by kernel_rfl)) (by decide) (fun K hK => ?_)
      refine goes_ Try.func75 (by kernel_rfl) rfl #[.agg #[.int .i64 t346, .int .i64 t347], .agg #[.int .i64 t348, .int .i64 t349]] (by rfl) rfl rfl qq3 ?_
      with_reducible refine (spec_l2Cross.calls t346 t347 t348 t349 t350 _ A6.out).mono ?_
      rintro e w34 ⟨rfl, hb⟩
      refine ⟨_, rfl, ?_⟩
      have n0_ := Aside0.mk (bbl_ BK343.out hb)
      have n1_ := Aside0.mk (bbl_ BK344.out hb)
      have n2_ := Aside0.mk (bbl_ BK345.out hb)
      have n3_ := Aside0.mk (below_step (qq8 HB.out GE343.out GE344.out GE345.out) hb)
      clear BK343
      clear BK344
      clear BK345
      clear HB
      have BK343 := n0_
      have BK344 := n1_
      have BK345 := n2_
      have HB := n3_
      clear n0_ n1_ n2_ n3_
      (try clear hb)
      (try clear hb2)
      (try clear hk)
      (try clear hi)
      refine hK.out _ _ ⟨(blk_cell BK343.out 0).trans rfl, (blk_cell BK343.out 1).trans rfl, (blk_cell BK344.out 0).trans rfl, (blk_cell BK344.out 1).trans rfl, (blk_cell BK345.out 0).trans rfl, (blk_cell BK345.out 1).trans rfl⟩ (fun hHeld => ?_)
      clear hK K
      refine norm_ (a' := ?_) ?_ ?_
      rotate_left
      · show Act.put _ (some 13) _ = _
        simp only [Act.put, List.setIfInBounds_toArray, List.set_cons_zero, List.set_cons_succ, i64_w, i32_w]
        rfl
      refine pure_ (i := 7) (N := some 14) #[true, true, true, true, true, true, true, true] rfl rfl (any_of HT_.out (by kernel_rfl)) (fun _ _ _ h => h) (Or.inl ⟨by rfl, pA_⟩) pB_ ?_
      refine done_ (done_of HT_.out (by kernel_rfl)) ?_
      have hnb35 := NB345_343.out
      have hnc35 := NB343_345.out
      have hnb36 := NB345_344.out
      have hnc36 := NB344_345.out
      have hcz37_0 : w34.cell? ⟨gb345, 0, none⟩ = some (.int .i64 a2_0) := (blk_cell BK345.out 0).trans rfl
      have hcz37_1 : w34.cell? ⟨gb345, 1, none⟩ = some (.int .i64 a2_1) := (blk_cell BK345.out 1).trans rfl
      have hfz37_0 := blk_frozen BK345.out 0
      have hfz37_1 := blk_frozen BK345.out 1
      have hnb38 := NB343_344.out
      have hnc38 := NB344_343.out
      have hcz39_0 : w34.cell? ⟨gb343, 0, none⟩ = some (.int .i64 a0_0) := (blk_cell BK343.out 0).trans rfl
      have hcz39_1 : w34.cell? ⟨gb343, 1, none⟩ = some (.int .i64 a0_1) := (blk_cell BK343.out 1).trans rfl
      have hfz39_0 := blk_frozen BK343.out 0
      have hfz39_1 := blk_frozen BK343.out 1
      have hcz40_0 : w34.cell? ⟨gb344, 0, none⟩ = some (.int .i64 a1_0) := (blk_cell BK344.out 0).trans rfl
      have hcz40_1 : w34.cell? ⟨gb344, 1, none⟩ = some (.int .i64 a1_1) := (blk_cell BK344.out 1).trans rfl
      have hfz40_0 := blk_frozen BK344.out 0
      have hfz40_1 := blk_frozen BK344.out 1
      try go_wp2_with (first | ((with_reducible refine gate_callee (f := 67) rfl ?_); refine goesL_ (some 27) rfl rfl Try.func67 (by kernel_rfl) rfl #[.int .i64 a2_0, .int .i64 ji8, .int .i64 ji9] rfl qq68 ?_; (with_reducible refine (spec_l6In.calls a2_0 ji8 ji9 false _ A10.out).mono ?_); rintro e w' ⟨rfl, ⟨nd, rfl⟩⟩; refine ⟨_, rfl, ?_⟩))
      go_ret
      exact ⟨by first | rfl | (simp [errW_none, errW_some] <;> rfl) | (simp only [← hji8, ← hji9]; first | rfl | (simp [errW_none, errW_some] <;> rfl)) | (simp [*, errW_none, errW_some] <;> rfl), qq8 HB.out GE343.out GE344.out GE345.out⟩
  · rw [if_neg c7] at H
    have c7b0 : (t350 == 0) = false := beq_eq_false_iff_ne.mpr c7
    have c7b1 : (t350 != 0) = true := bne_iff_ne.mpr c7
    obtain rfl := Option.some.inj H
    go_enter Try.func50, Try.ntmps50
    try go_wp2_with (first | ((with_reducible refine gate_dst (N := 3) rfl ?_); (try (refine gate_guard (by rfl) ?_; dsimp only)); refine box_event ?hg (N := 3) ?hd (cs := #[.int .i64 a0_0, .int .i64 a0_1]) (t := 32) ?hr ?_; (case hd => rfl); (case hg => rfl); (case hr => exact qq23); intro gb343 hg w41 hbox hb; have n0_ := Aside0.mk (below_step qq1 hb); have n1_ := Aside0.mk (hbox); have n2_ := Aside0.mk ((qq34 : w.heap.size ≤ gb343)); have n3_ := Aside0.mk ((qq34 : w.heap.size ≤ gb343)); clear HB; have HB := n0_; have BK343 := n1_; have GW343 := n2_; have GE343 := n3_; clear n0_ n1_ n2_ n3_; clear hb hbox hg) | ((with_reducible refine gate_dst (N := 4) rfl ?_); (try (refine gate_guard (by rfl) ?_; dsimp only)); refine box_event ?hg (N := 4) ?hd (cs := #[.int .i64 a1_0, .int .i64 a1_1]) (t := 32) ?hr ?_; (case hd => rfl); (case hg => rfl); (case hr => exact qq23); intro gb344 hg w42 hbox hb; have n0_ := Aside0.mk (bbl_ BK343.out hb); have n1_ := Aside0.mk (below_step (qq6 HB.out GE343.out) hb); have n2_ := Aside0.mk (hbox); have n3_ := Aside0.mk ((qq36 HB.out GE343.out : w.heap.size ≤ gb344)); have n4_ := Aside0.mk ((qq36 HB.out GE343.out : w.heap.size ≤ gb344)); have n5_ := Aside0.mk ((qq27 BK343.out : gb343 ≠ gb344)); have n6_ := Aside0.mk ((qq28 BK343.out : gb344 ≠ gb343)); clear BK343; clear HB; have BK343 := n0_; have HB := n1_; have BK344 := n2_; have GW344 := n3_; have GE344 := n4_; have NB343_344 := n5_; have NB344_343 := n6_; clear n0_ n1_ n2_ n3_ n4_ n5_ n6_; clear hb hbox hg) | ((with_reducible refine gate_dst (N := 5) rfl ?_); (try (refine gate_guard (by rfl) ?_; dsimp only)); refine box_event ?hg (N := 5) ?hd (cs := #[.int .i64 a2_0, .int .i64 a2_1]) (t := 32) ?hr ?_; (case hd => rfl); (case hg => rfl); (case hr => exact qq23); intro gb345 hg w43 hbox hb; have n0_ := Aside0.mk (bbl_ BK343.out hb); have n1_ := Aside0.mk (bbl_ BK344.out hb); have n2_ := Aside0.mk (below_step (qq12 HB.out GE343.out GE344.out) hb); have n3_ := Aside0.mk (hbox); have n4_ := Aside0.mk ((qq47 HB.out GE343.out GE344.out : w.heap.size ≤ gb345)); have n5_ := Aside0.mk ((qq47 HB.out GE343.out GE344.out : w.heap.size ≤ gb345)); have n6_ := Aside0.mk ((qq27 BK343.out : gb343 ≠ gb345)); have n7_ := Aside0.mk ((qq28 BK343.out : gb345 ≠ gb343)); have n8_ := Aside0.mk ((qq27 BK344.out : gb344 ≠ gb345)); have n9_ := Aside0.mk ((qq28 BK344.out : gb345 ≠ gb344)); clear BK343; clear BK344; clear HB; have BK343 := n0_; have BK344 := n1_; have HB := n2_; have BK345 := n3_; have GW345 := n4_; have GE345 := n5_; have NB343_345 := n6_; have NB345_343 := n7_; have NB344_345 := n8_; have NB345_344 := n9_; clear n0_ n1_ n2_ n3_ n4_ n5_ n6_ n7_ n8_ n9_; clear hb hbox hg))
    have n0_ := Aside0.mk (blk_drew BK343.out)
    have n1_ := Aside0.mk (blk_drew BK344.out)
    have n2_ := Aside0.mk (blk_drew BK345.out)
    have n3_ := Aside0.mk (below_drew1 HB.out)
    clear BK343
    clear BK344
    clear BK345
    clear HB
    have BK343 := n0_
    have BK344 := n1_
    have BK345 := n2_
    have HB := n3_
    clear n0_ n1_ n2_ n3_
    refine start_ (n := 8) (S := fun w' => w'.cell? ⟨gb343, 0, none⟩ = some (.int .i64 a0_0) ∧ w'.cell? ⟨gb343, 1, none⟩ = some (.int .i64 a0_1) ∧ w'.cell? ⟨gb344, 0, none⟩ = some (.int .i64 a1_0) ∧ w'.cell? ⟨gb344, 1, none⟩ = some (.int .i64 a1_1) ∧ w'.cell? ⟨gb345, 0, none⟩ = some (.int .i64 a2_0) ∧ w'.cell? ⟨gb345, 1, none⟩ = some (.int .i64 a2_1)) (ds := []) #[false, false, false, false, false, false, false, false] (by kernel_rfl) rfl rfl ⟨(blk_cell BK343.out 0).trans rfl, (blk_cell BK343.out 1).trans rfl, (blk_cell BK344.out 0).trans rfl, (blk_cell BK344.out 1).trans rfl, (blk_cell BK345.out 0).trans rfl, (blk_cell BK345.out 1).trans rfl⟩ (fun hHeld => ?_); refine with_tabW spec_l2On.tab1 spec_l2On.bits1 (fun HT_ HW_ => ?_)
    generalize w43.drew = w44 at BK343 BK344 BK345 HB hHeld ⊢
    refine take_ (i := 0) (N := some 7) (v := ?_) (a' := ?_) #[true, false, false, false, false, false, false, false] rfl rfl (take_ofW HT_.out HW_.out (by kernel_rfl)) (fun _ _ _ h => h) (Or.inl ⟨by rfl, ?_⟩) hHeld ?_ ?_
    rotate_left
    · rintro w' ⟨s0, s1, s2, s3, s4, s5⟩
      go_simp
      with_reducible rfl
    rotate_left
    · simp only [Act.put, List.setIfInBounds_toArray, List.set_cons_zero, List.set_cons_succ, i64_w, i32_w]
      rfl
    refine take_ (i := 1) (N := some 8) (v := ?_) (a' := ?_) #[true, true, false, false, false, false, false, false] rfl rfl (take_ofW HT_.out HW_.out (by kernel_rfl)) (fun _ _ _ h => h) (Or.inl ⟨by rfl, ?_⟩) hHeld ?_ ?_
    rotate_left
    · rintro w' ⟨s0, s1, s2, s3, s4, s5⟩
      go_simp
      with_reducible rfl
    rotate_left
    · simp only [Act.put, List.setIfInBounds_toArray, List.set_cons_zero, List.set_cons_succ, i64_w, i32_w]
      rfl
    refine take_ (i := 3) (N := some 10) (v := ?_) (a' := ?_) #[true, true, false, true, false, false, false, false] rfl rfl (take_ofW HT_.out HW_.out (by kernel_rfl)) (fun _ _ _ h => h) (Or.inl ⟨by rfl, ?_⟩) hHeld ?_ ?_
    rotate_left
    · rintro w' ⟨s0, s1, s2, s3, s4, s5⟩
      go_simp
      with_reducible rfl
    rotate_left
    · simp only [Act.put, List.setIfInBounds_toArray, List.set_cons_zero, List.set_cons_succ, i64_w, i32_w]
      rfl
    refine take_ (i := 4) (N := some 11) (v := ?_) (a' := ?_) #[true, true, false, true, true, false, false, false] rfl rfl (take_ofW HT_.out HW_.out (by kernel_rfl)) (fun _ _ _ h => h) (Or.inl ⟨by rfl, ?_⟩) hHeld ?_ ?_
    rotate_left
    · rintro w' ⟨s0, s1, s2, s3, s4, s5⟩
      go_simp
      with_reducible rfl
    rotate_left
    · simp only [Act.put, List.setIfInBounds_toArray, List.set_cons_zero, List.set_cons_succ, i64_w, i32_w]
      rfl
    refine one_ (i := 2) (N := some 9) #[true, true, true, true, true, false, false, false] rfl rfl (one_of HT_.out (by kernel_rfl)) (by decide) (fun K hK => ?_)
    refine goes_ Try.func77 (by kernel_rfl) rfl #[.agg #[.int .i64 a0_0, .int .i64 a0_1], .agg #[.int .i64 a1_0, .int .i64 a1_1]] (by rfl) rfl rfl qq3 ?_
    with_reducible refine (spec_l2Step.calls a0_0 a0_1 a1_0 a1_1 t346 t347 _ A4.out).mono ?_
    rintro e w45 ⟨rfl, hb⟩
    refine ⟨_, rfl, ?_⟩
    have n0_ := Aside0.mk (bbl_ BK343.out hb)
    have n1_ := Aside0.mk (bbl_ BK344.out hb)
    have n2_ := Aside0.mk (bbl_ BK345.out hb)
    have n3_ := Aside0.mk (below_step (qq8 HB.out GE343.out GE344.out GE345.out) hb)
    clear BK343
    clear BK344
    clear BK345
    clear HB
    have BK343 := n0_
    have BK344 := n1_
    have BK345 := n2_
    have HB := n3_
    clear n0_ n1_ n2_ n3_
    (try clear hb)
    (try clear hb2)
    (try clear hk)
    (try clear hi)
    refine hK.out _ _ ⟨(blk_cell BK343.out 0).trans rfl, (blk_cell BK343.out 1).trans rfl, (blk_cell BK344.out 0).trans rfl, (blk_cell BK344.out 1).trans rfl, (blk_cell BK345.out 0).trans rfl, (blk_cell BK345.out 1).trans rfl⟩ (fun hHeld => ?_)
    clear hK K
    refine norm_ (a' := ?_) ?_ ?_
    rotate_left
    · show Act.put _ (some 9) _ = _
      simp only [Act.put, List.setIfInBounds_toArray, List.set_cons_zero, List.set_cons_succ, i64_w, i32_w]
      rfl
    refine one_ (i := 5) (N := some 12) #[true, true, true, true, true, true, false, false] rfl rfl (one_of HT_.out (by kernel_rfl)) (by decide) (fun K hK => ?_)
    refine goes_ Try.func77 (by kernel_rfl) rfl #[.agg #[.int .i64 a0_0, .int .i64 a0_1], .agg #[.int .i64 a2_0, .int .i64 a2_1]] (by rfl) rfl rfl qq3 ?_
    with_reducible refine (spec_l2Step.calls a0_0 a0_1 a2_0 a2_1 t348 t349 _ A5.out).mono ?_
    rintro e w46 ⟨rfl, hb⟩
    refine ⟨_, rfl, ?_⟩
    have n0_ := Aside0.mk (bbl_ BK343.out hb)
    have n1_ := Aside0.mk (bbl_ BK344.out hb)
    have n2_ := Aside0.mk (bbl_ BK345.out hb)
    have n3_ := Aside0.mk (below_step (qq8 HB.out GE343.out GE344.out GE345.out) hb)
    clear BK343
    clear BK344
    clear BK345
    clear HB
    have BK343 := n0_
    have BK344 := n1_
    have BK345 := n2_
    have HB := n3_
    clear n0_ n1_ n2_ n3_
    (try clear hb)
    (try clear hb2)
    (try clear hk)
    (try clear hi)
    refine hK.out _ _ ⟨(blk_cell BK343.out 0).trans rfl, (blk_cell BK343.out 1).trans rfl, (blk_cell BK344.out 0).trans rfl, (blk_cell BK344.out 1).trans rfl, (blk_cell BK345.out 0).trans rfl, (blk_cell BK345.out 1).trans rfl⟩ (fun hHeld => ?_)
    clear hK K
    refine norm_ (a' := ?_) ?_ ?_
    rotate_left
    · show Act.put _ (some 12) _ = _
      simp only [Act.put, List.setIfInBounds_toArray, List.set_cons_zero, List.set_cons_succ, i64_w, i32_w]
      rfl
    refine one_ (i := 6) (N := some 13) #[true, true, true, true, true, true, true, false] rfl rfl (one_of HT_.out (by kernel_rfl)) (by decide) (fun K hK => ?_)
    refine goes_ Try.func75 (by kernel_rfl) rfl #[.agg #[.int .i64 t346, .int .i64 t347], .agg #[.int .i64 t348, .int .i64 t349]] (by rfl) rfl rfl qq3 ?_
    with_reducible refine (spec_l2Cross.calls t346 t347 t348 t349 t350 _ A6.out).mono ?_
    rintro e w47 ⟨rfl, hb⟩
    refine ⟨_, rfl, ?_⟩
    have n0_ := Aside0.mk (bbl_ BK343.out hb)
    have n1_ := Aside0.mk (bbl_ BK344.out hb)
    have n2_ := Aside0.mk (bbl_ BK345.out hb)
    have n3_ := Aside0.mk (below_step (qq8 HB.out GE343.out GE344.out GE345.out) hb)
    clear BK343
    clear BK344
    clear BK345
    clear HB
    have BK343 := n0_
    have BK344 := n1_
    have BK345 := n2_
    have HB := n3_
    clear n0_ n1_ n2_ n3_
    (try clear hb)
    (try clear hb2)
    (try clear hk)
    (try clear hi)
    refine hK.out _ _ ⟨(blk_cell BK343.out 0).trans rfl, (blk_cell BK343.out 1).trans rfl, (blk_cell BK344.out 0).trans rfl, (blk_cell BK344.out 1).trans rfl, (blk_cell BK345.out 0).trans rfl, (blk_cell BK345.out 1).trans rfl⟩ (fun hHeld => ?_)
    clear hK K
    refine norm_ (a' := ?_) ?_ ?_
    rotate_left
    · show Act.put _ (some 13) _ = _
      simp only [Act.put, List.setIfInBounds_toArray, List.set_cons_zero, List.set_cons_succ, i64_w, i32_w]
      rfl
    refine pure_ (i := 7) (N := some 14) #[true, true, true, true, true, true, true, true] rfl rfl (any_of HT_.out (by kernel_rfl)) (fun _ _ _ h => h) (Or.inl ⟨by rfl, pA_⟩) pB_ ?_
    refine done_ (done_of HT_.out (by kernel_rfl)) ?_
    try go_wp2
    go_ret
    exact ⟨qq13, qq8 HB.out GE343.out GE344.out GE345.out⟩

end Go.Proofs.Ytgdhgncdpmalcaa.Q
namespace Go.Proofs.Ytgdhgncdpmalcaa.Pure
open Go.RowKit Go.Proofs.Ytgdhgncdpmalcaa.Q Go.Proofs.YtgdhgncdpmalcaaW.PrintWords Go.Proofs.YtgdhgncdpmalcaaW.PrintLast Go.Proofs.YtgdhgncdpmalcaaW.PrintMore

/-- What PointOn answers. -/
def onP (a b c d e f : Int) : Prop := crs a b c d e f = 0 ∧ min a c ≤ e ∧ e ≤ max a c ∧ min b d ≤ f ∧ f ≤ max b d
instance (a b c d e f : Int) : Decidable (onP a b c d e f) := by unfold onP; infer_instance
def onR (a b c d e f : Int) : Bool := decide (PV a b = true ∧ PV c d = true ∧ PV e f = true ∧ onP a b c d e f)

theorem spec_l2On_eq {a b c d e f : Int} (h : PV a b = true) (h' : PV c d = true) (h'' : PV e f = true) : spec_l2On.f a b c d e f = some (decide (onP a b c d e f)) := by
  unfold spec_l2On.f
  rw [spec_l2Step_eq h h', spec_l2Step_eq h h'']
  simp only [Option.bind_some, spec_cross_eq h h' h'', spec_l6In_eq, mx_eq, mn_eq]
  by_cases h0 : crs a b c d e f = 0
  · rw [if_pos h0]
    by_cases h1 : min a c ≤ e ∧ e ≤ max a c
    · rw [if_pos (by simpa using h1)]; congr 1; rw [decide_eq_decide]; unfold onP; omega
    · rw [if_neg (by simpa using h1)]; congr 1; symm; rw [decide_eq_false_iff_not]; unfold onP; omega
  · rw [if_neg h0]; congr 1; symm; rw [decide_eq_false_iff_not]; unfold onP; omega

theorem impl_between_eq (a b c : Int) : impl_between.f a b c = some (decide (min a b ≤ c ∧ c ≤ max a b)) := by
  unfold impl_between.f
  rw [mx_eq, mn_eq]
  by_cases h : min a b ≤ c
  · rw [if_pos h]; congr 1; rw [decide_eq_decide]; omega
  · rw [if_neg h]; congr 1; symm; rw [decide_eq_false_iff_not]; omega

theorem impl_PointOn_eq (k : Nat) (a b c d e f : Int) : impl_PointOn.f (k + 1) a b c d e f = some (onR a b c d e f) := by
  simp only [impl_PointOn.f, impl_PointSide_eq, Option.bind_some, impl_PointOn.j0, impl_between_eq, onR]
  by_cases h : PV a b = true ∧ PV c d = true ∧ PV e f = true
  · rw [sideR_yes h.1 h.2.1 h.2.2, if_pos rfl]
    by_cases h0 : crs a b c d e f = 0
    · rw [if_neg (by simp [sgn_zero.2 h0])]
      by_cases h1 : min a c ≤ e ∧ e ≤ max a c
      · rw [if_pos (by simpa using h1)]; congr 1; rw [decide_eq_decide]
        constructor
        · intro hh; exact ⟨h.1, h.2.1, h.2.2, h0, by omega, by omega, by omega, by omega⟩
        · rintro ⟨_, _, _, _, _, _, h5, h6⟩; exact ⟨h5, h6⟩
      · rw [if_neg (by simpa using h1)]; congr 1; symm; rw [decide_eq_false_iff_not]; unfold onP; omega
    · rw [if_pos (by simpa [sgn_zero] using h0)]; congr 1; symm; rw [decide_eq_false_iff_not]; unfold onP; omega
  · rw [sideR_no h, if_neg (by simp), if_pos trivial]; congr 1; symm; rw [decide_eq_false_iff_not]
    rintro ⟨h1, h2, h3, _⟩; exact h ⟨h1, h2, h3⟩

end Go.Proofs.Ytgdhgncdpmalcaa.Pure
namespace Go.Proofs.Ytgdhgncdpmalcaa.Ring
open Go.RowKit Go.Shelf Go.Proofs.Ytgdhgncdpmalcaa.Q Go.Proofs.Ytgdhgncdpmalcaa.Drawn Go.Proofs.YtgdhgncdpmalcaaW.PrintWords Go.Proofs.YtgdhgncdpmalcaaW.PrintLast Go.Proofs.YtgdhgncdpmalcaaW.PrintMore
set_option linter.unusedVariables false
set_option linter.unusedSimpArgs false
attribute [local go_sem] Oper.semAt_some

def onPt (p q r : Pt) : Bool := Pure.onR p.f0 p.f1 q.f0 q.f1 r.f0 r.f1
theorem onPt_f (p q r : Pt) : impl_PointOn.f 1 p.f0 p.f1 q.f0 q.f1 r.f0 r.f1 = some (onPt p q r) := Pure.impl_PointOn_eq 0 _ _ _ _ _ _
set_option maxRecDepth 100000 in
set_option maxHeartbeats 4000000 in
theorem folds_at (b1 b2 b3 : Nat) (p1 p2 p3 : Pt) (w : World) (x1 : w.cell? ⟨b1, 0, none⟩ = some (.int .i64 p1.f0)) (y1 : w.cell? ⟨b1, 1, none⟩ = some (.int .i64 p1.f1)) (n1 : w.cell? ⟨b1, 2, none⟩ = some (.pointer (some ⟨b2, 0, none⟩)))
    (x2 : w.cell? ⟨b2, 0, none⟩ = some (.int .i64 p2.f0)) (y2 : w.cell? ⟨b2, 1, none⟩ = some (.int .i64 p2.f1)) (n2 : w.cell? ⟨b2, 2, none⟩ = some (.pointer (some ⟨b3, 0, none⟩)))
    (x3 : w.cell? ⟨b3, 0, none⟩ = some (.int .i64 p3.f0)) (y3 : w.cell? ⟨b3, 1, none⟩ = some (.int .i64 p3.f1)) (s1 : b1 < w.heap.size) (s2 : b2 < w.heap.size) (s3 : b3 < w.heap.size) :
    Calls Try.prog 83 #[.pointer (some ⟨b1, 0, none⟩)] w fun e w' => e = .returned (.bool (onPt p1 p2 p3 || onPt p2 p3 p1)) ∧ Below w.heap.size w w' := by
  refine (callsIn_wide (n := 0)).1 (callsIn_of_wp Try.func83 rfl trivial ?_ rfl)
  simp only [Try.ntmps83, List.size_toArray, List.length_cons, List.length_nil, Nat.reduceAdd, Nat.reduceSub, Array.replicate_succ, Array.replicate_zero, List.push_toArray, List.append_toArray, List.nil_append, List.cons_append]
  have HF := wide_plain Try.prog
  gi_wp2
  obtain ⟨VS, hVS⟩ : ∃ VS : (Nat → Nat) → List (Option Tmp × Value), (fun B => [(some 6, .pointer (some ⟨b1, 0, none⟩)), (some 7, .pointer (some ⟨b1, 0, none⟩)), (some 8, .pointer (some ⟨b1, 0, none⟩)), (some 9, .agg #[.int .i64 p1.f0, .int .i64 p1.f1]), (some 10, .pointer (some ⟨b1, 0, none⟩)), (some 11, .pointer (some ⟨b1, 0, none⟩)), (some 12, .pointer (some ⟨b1, 2, none⟩)), (some 13, .pointer (some ⟨b2, 0, none⟩)), (some 14, .pointer (some ⟨b2, 0, none⟩)), (some 15, .pointer (some ⟨b2, 0, none⟩)), (some 16, .agg #[.int .i64 p2.f0, .int .i64 p2.f1]), (some 17, .pointer (some ⟨b1, 0, none⟩)), (some 18, .pointer (some ⟨b1, 0, none⟩)), (some 19, .pointer (some ⟨b1, 2, none⟩)), (some 20, .pointer (some ⟨b2, 0, none⟩)), (some 21, .pointer (some ⟨b2, 0, none⟩)), (some 22, .pointer (some ⟨b2, 2, none⟩)), (some 23, .pointer (some ⟨b3, 0, none⟩)), (some 24, .pointer (some ⟨b3, 0, none⟩)), (some 25, .pointer (some ⟨b3, 0, none⟩)), (some 26, .agg #[.int .i64 p3.f0, .int .i64 p3.f1]), (some 3, .pointer (some ⟨B 0, 0, none⟩)), (some 4, .pointer (some ⟨B 1, 0, none⟩)), (some 5, .pointer (some ⟨B 2, 0, none⟩)), (none, undef), (none, undef), (none, undef)]) = VS := ⟨_, rfl⟩
  have HN : ∀ B, ((VS B).filterMap (·.1)).Nodup := fun B => by rw [← hVS]; exact (show List.Nodup [(6 : Tmp), (7 : Tmp), (8 : Tmp), (9 : Tmp), (10 : Tmp), (11 : Tmp), (12 : Tmp), (13 : Tmp), (14 : Tmp), (15 : Tmp), (16 : Tmp), (17 : Tmp), (18 : Tmp), (19 : Tmp), (20 : Tmp), (21 : Tmp), (22 : Tmp), (23 : Tmp), (24 : Tmp), (25 : Tmp), (26 : Tmp), (3 : Tmp), (4 : Tmp), (5 : Tmp)] by decide)
  refine act_name fun A0 hA0 => ?_
  have E0 : ∀ (B : Nat → Nat) (L : List Bool), (fill (VS B) L A0).tmps[0]?.getD undef = .pointer (some ⟨b1, 0, none⟩) := fun B L => fill_old _ _ _ (by rw [← hVS]; exact (show (0 : Tmp) ∉ [(6 : Tmp), (7 : Tmp), (8 : Tmp), (9 : Tmp), (10 : Tmp), (11 : Tmp), (12 : Tmp), (13 : Tmp), (14 : Tmp), (15 : Tmp), (16 : Tmp), (17 : Tmp), (18 : Tmp), (19 : Tmp), (20 : Tmp), (21 : Tmp), (22 : Tmp), (23 : Tmp), (24 : Tmp), (25 : Tmp), (26 : Tmp), (3 : Tmp), (4 : Tmp), (5 : Tmp)] by decide)) (by rw [← hA0]; rfl)
  have hT_ : 26 < A0.tmps.size := by rw [← hA0]; simp
  have hSa : ∀ w' : World, w.heap.size ≤ w'.heap.size → (fun w' => Below w.heap.size w w') w' → ∀ o, (fun w' => Below w.heap.size w w') (w'.alloc o) := fun w' hz h o => h.alloc hz o
  have hSs : ∀ (w' : World) (p : Addr) (v : Value), w.heap.size ≤ p.block → (fun w' => Below w.heap.size w w') w' → (fun w' => Below w.heap.size w w') (w'.setCell p v) := fun w' p v hp h => h.setCell hp v
  refine drawn_any (by kernel_rfl) (early_spec (by kernel_rfl)) (show List.Nodup [(6 : Tmp), (7 : Tmp), (8 : Tmp), (9 : Tmp), (10 : Tmp), (11 : Tmp), (12 : Tmp), (13 : Tmp), (14 : Tmp), (15 : Tmp), (16 : Tmp), (17 : Tmp), (18 : Tmp), (19 : Tmp), (20 : Tmp), (21 : Tmp), (22 : Tmp), (23 : Tmp), (24 : Tmp), (25 : Tmp), (26 : Tmp), (3 : Tmp), (4 : Tmp), (5 : Tmp)] by decide) (fun L vs w' => ∃ B : Nat → Nat, vs = VS B ∧ Boxes (w.heap.size) (fun w' => Below w.heap.size w w') 3 (fun t => 21 + t) (fun t => 24 + t) (fun t => match t with | 0 => (p1.f0, p1.f1) | 1 => (p2.f0, p2.f1) | _ => (p3.f0, p3.f1)) L B w') (fun L vs w' h => by obtain ⟨B, rfl, _⟩ := h; rw [← hVS]; rfl) (VS (fun _ => 0)) ⟨fun _ => 0, rfl, Boxes.start ((Below.refl _ _).drew) (by simp) _⟩ ?_ ?_
  · intro i o vs L w' ho hl hli hpre hcl hV K hK
    obtain ⟨B, rfl, hT⟩ := hV
    have hS := hT.s
    have hii : i = 0 ∨ i = 1 ∨ i = 2 ∨ i = 3 ∨ i = 4 ∨ i = 5 ∨ i = 6 ∨ i = 7 ∨ i = 8 ∨ i = 9 ∨ i = 10 ∨ i = 11 ∨ i = 12 ∨ i = 13 ∨ i = 14 ∨ i = 15 ∨ i = 16 ∨ i = 17 ∨ i = 18 ∨ i = 19 ∨ i = 20 ∨ i = 21 ∨ i = 22 ∨ i = 23 ∨ i = 24 ∨ i = 25 ∨ i = 26 := by have hq := (Array.getElem?_eq_some_iff.1 ho).1; simp at hq; omega
    rcases hii with rfl | rfl | rfl | rfl | rfl | rfl | rfl | rfl | rfl | rfl | rfl | rfl | rfl | rfl | rfl | rfl | rfl | rfl | rfl | rfl | rfl | rfl | rfl | rfl | rfl | rfl | rfl
    · obtain rfl := Option.some.inj ho
      have e0 := E0 B L
      refine st_val HF rfl (by simp) rfl (v := .pointer (some ⟨b1, 0, none⟩)) (w' := w') ?_ (hK _ w' ⟨B, by rw [← hVS]; rfl, hT.keep (fun t ht => by omega) (fun t ht => by omega)⟩)
      generalize fill (VS B) L A0 = A at e0 ⊢
      simp [execOp, go_sem, i64_w, e0]
    · obtain rfl := Option.some.inj ho
      have e6 := fill_getB (B := B) HN hVS hT_ (t := 6) (j := 0) rfl rfl (hpre ⟨0, .data⟩ (by simp) rfl)
      refine st_val HF rfl (by simp) rfl (v := .pointer (some ⟨b1, 0, none⟩)) (w' := w') ?_ (hK _ w' ⟨B, by rw [← hVS]; rfl, hT.keep (fun t ht => by omega) (fun t ht => by omega)⟩)
      generalize fill (VS B) L A0 = A at e6 ⊢
      simp [execOp, go_sem, i64_w, e6]
    · obtain rfl := Option.some.inj ho
      have e7 := fill_getB (B := B) HN hVS hT_ (t := 7) (j := 1) rfl rfl (hpre ⟨1, .data⟩ (by simp) rfl)
      refine st_val HF rfl (by simp) rfl (v := .pointer (some ⟨b1, 0, none⟩)) (w' := w') ?_ (hK _ w' ⟨B, by rw [← hVS]; rfl, hT.keep (fun t ht => by omega) (fun t ht => by omega)⟩)
      generalize fill (VS B) L A0 = A at e7 ⊢
      simp [execOp, go_sem, i64_w, e7]
    · obtain rfl := Option.some.inj ho
      have e8 := fill_getB (B := B) HN hVS hT_ (t := 8) (j := 2) rfl rfl (hpre ⟨2, .data⟩ (by simp) rfl)
      have c1 := (hS.cell (p := ⟨b1, 0, none⟩) s1).trans x1
      have c2 := (hS.cell (p := ⟨b1, 1, none⟩) s1).trans y1
      refine st_val HF rfl (by simp) rfl (v := .agg #[.int .i64 p1.f0, .int .i64 p1.f1]) (w' := w') ?_ (hK _ w' ⟨B, by rw [← hVS]; rfl, hT.keep (fun t ht => by omega) (fun t ht => by omega)⟩)
      generalize fill (VS B) L A0 = A at e8 ⊢
      simp [execOp, go_sem, i64_w, e8, c1, c2]
    · obtain rfl := Option.some.inj ho
      have e0 := E0 B L
      refine st_val HF rfl (by simp) rfl (v := .pointer (some ⟨b1, 0, none⟩)) (w' := w') ?_ (hK _ w' ⟨B, by rw [← hVS]; rfl, hT.keep (fun t ht => by omega) (fun t ht => by omega)⟩)
      generalize fill (VS B) L A0 = A at e0 ⊢
      simp [execOp, go_sem, i64_w, e0]
    · obtain rfl := Option.some.inj ho
      have e10 := fill_getB (B := B) HN hVS hT_ (t := 10) (j := 4) rfl rfl (hpre ⟨4, .data⟩ (by simp) rfl)
      refine st_val HF rfl (by simp) rfl (v := .pointer (some ⟨b1, 0, none⟩)) (w' := w') ?_ (hK _ w' ⟨B, by rw [← hVS]; rfl, hT.keep (fun t ht => by omega) (fun t ht => by omega)⟩)
      generalize fill (VS B) L A0 = A at e10 ⊢
      simp [execOp, go_sem, i64_w, e10]
    · obtain rfl := Option.some.inj ho
      have e11 := fill_getB (B := B) HN hVS hT_ (t := 11) (j := 5) rfl rfl (hpre ⟨5, .data⟩ (by simp) rfl)
      refine st_val HF rfl (by simp) rfl (v := .pointer (some ⟨b1, 2, none⟩)) (w' := w') ?_ (hK _ w' ⟨B, by rw [← hVS]; rfl, hT.keep (fun t ht => by omega) (fun t ht => by omega)⟩)
      generalize fill (VS B) L A0 = A at e11 ⊢
      simp [execOp, go_sem, i64_w, e11]
    · obtain rfl := Option.some.inj ho
      have e12 := fill_getB (B := B) HN hVS hT_ (t := 12) (j := 6) rfl rfl (hpre ⟨6, .data⟩ (by simp) rfl)
      have c1 := (hS.cell (p := ⟨b1, 2, none⟩) s1).trans n1
      refine st_val HF rfl (by simp) rfl (v := .pointer (some ⟨b2, 0, none⟩)) (w' := w') ?_ (hK _ w' ⟨B, by rw [← hVS]; rfl, hT.keep (fun t ht => by omega) (fun t ht => by omega)⟩)
      generalize fill (VS B) L A0 = A at e12 ⊢
      simp [execOp, go_sem, i64_w, e12, c1]
    · obtain rfl := Option.some.inj ho
      have e13 := fill_getB (B := B) HN hVS hT_ (t := 13) (j := 7) rfl rfl (hpre ⟨7, .data⟩ (by simp) rfl)
      refine st_val HF rfl (by simp) rfl (v := .pointer (some ⟨b2, 0, none⟩)) (w' := w') ?_ (hK _ w' ⟨B, by rw [← hVS]; rfl, hT.keep (fun t ht => by omega) (fun t ht => by omega)⟩)
      generalize fill (VS B) L A0 = A at e13 ⊢
      simp [execOp, go_sem, i64_w, e13]
    · obtain rfl := Option.some.inj ho
      have e14 := fill_getB (B := B) HN hVS hT_ (t := 14) (j := 8) rfl rfl (hpre ⟨8, .data⟩ (by simp) rfl)
      refine st_val HF rfl (by simp) rfl (v := .pointer (some ⟨b2, 0, none⟩)) (w' := w') ?_ (hK _ w' ⟨B, by rw [← hVS]; rfl, hT.keep (fun t ht => by omega) (fun t ht => by omega)⟩)
      generalize fill (VS B) L A0 = A at e14 ⊢
      simp [execOp, go_sem, i64_w, e14]
    · obtain rfl := Option.some.inj ho
      have e15 := fill_getB (B := B) HN hVS hT_ (t := 15) (j := 9) rfl rfl (hpre ⟨9, .data⟩ (by simp) rfl)
      have c1 := (hS.cell (p := ⟨b2, 0, none⟩) s2).trans x2
      have c2 := (hS.cell (p := ⟨b2, 1, none⟩) s2).trans y2
      refine st_val HF rfl (by simp) rfl (v := .agg #[.int .i64 p2.f0, .int .i64 p2.f1]) (w' := w') ?_ (hK _ w' ⟨B, by rw [← hVS]; rfl, hT.keep (fun t ht => by omega) (fun t ht => by omega)⟩)
      generalize fill (VS B) L A0 = A at e15 ⊢
      simp [execOp, go_sem, i64_w, e15, c1, c2]
    · obtain rfl := Option.some.inj ho
      have e0 := E0 B L
      refine st_val HF rfl (by simp) rfl (v := .pointer (some ⟨b1, 0, none⟩)) (w' := w') ?_ (hK _ w' ⟨B, by rw [← hVS]; rfl, hT.keep (fun t ht => by omega) (fun t ht => by omega)⟩)
      generalize fill (VS B) L A0 = A at e0 ⊢
      simp [execOp, go_sem, i64_w, e0]
    · obtain rfl := Option.some.inj ho
      have e17 := fill_getB (B := B) HN hVS hT_ (t := 17) (j := 11) rfl rfl (hpre ⟨11, .data⟩ (by simp) rfl)
      refine st_val HF rfl (by simp) rfl (v := .pointer (some ⟨b1, 0, none⟩)) (w' := w') ?_ (hK _ w' ⟨B, by rw [← hVS]; rfl, hT.keep (fun t ht => by omega) (fun t ht => by omega)⟩)
      generalize fill (VS B) L A0 = A at e17 ⊢
      simp [execOp, go_sem, i64_w, e17]
    · obtain rfl := Option.some.inj ho
      have e18 := fill_getB (B := B) HN hVS hT_ (t := 18) (j := 12) rfl rfl (hpre ⟨12, .data⟩ (by simp) rfl)
      refine st_val HF rfl (by simp) rfl (v := .pointer (some ⟨b1, 2, none⟩)) (w' := w') ?_ (hK _ w' ⟨B, by rw [← hVS]; rfl, hT.keep (fun t ht => by omega) (fun t ht => by omega)⟩)
      generalize fill (VS B) L A0 = A at e18 ⊢
      simp [execOp, go_sem, i64_w, e18]
    · obtain rfl := Option.some.inj ho
      have e19 := fill_getB (B := B) HN hVS hT_ (t := 19) (j := 13) rfl rfl (hpre ⟨13, .data⟩ (by simp) rfl)
      have c1 := (hS.cell (p := ⟨b1, 2, none⟩) s1).trans n1
      refine st_val HF rfl (by simp) rfl (v := .pointer (some ⟨b2, 0, none⟩)) (w' := w') ?_ (hK _ w' ⟨B, by rw [← hVS]; rfl, hT.keep (fun t ht => by omega) (fun t ht => by omega)⟩)
      generalize fill (VS B) L A0 = A at e19 ⊢
      simp [execOp, go_sem, i64_w, e19, c1]
    · obtain rfl := Option.some.inj ho
      have e20 := fill_getB (B := B) HN hVS hT_ (t := 20) (j := 14) rfl rfl (hpre ⟨14, .data⟩ (by simp) rfl)
      refine st_val HF rfl (by simp) rfl (v := .pointer (some ⟨b2, 0, none⟩)) (w' := w') ?_ (hK _ w' ⟨B, by rw [← hVS]; rfl, hT.keep (fun t ht => by omega) (fun t ht => by omega)⟩)
      generalize fill (VS B) L A0 = A at e20 ⊢
      simp [execOp, go_sem, i64_w, e20]
    · obtain rfl := Option.some.inj ho
      have e21 := fill_getB (B := B) HN hVS hT_ (t := 21) (j := 15) rfl rfl (hpre ⟨15, .data⟩ (by simp) rfl)
      refine st_val HF rfl (by simp) rfl (v := .pointer (some ⟨b2, 2, none⟩)) (w' := w') ?_ (hK _ w' ⟨B, by rw [← hVS]; rfl, hT.keep (fun t ht => by omega) (fun t ht => by omega)⟩)
      generalize fill (VS B) L A0 = A at e21 ⊢
      simp [execOp, go_sem, i64_w, e21]
    · obtain rfl := Option.some.inj ho
      have e22 := fill_getB (B := B) HN hVS hT_ (t := 22) (j := 16) rfl rfl (hpre ⟨16, .data⟩ (by simp) rfl)
      have c1 := (hS.cell (p := ⟨b2, 2, none⟩) s2).trans n2
      refine st_val HF rfl (by simp) rfl (v := .pointer (some ⟨b3, 0, none⟩)) (w' := w') ?_ (hK _ w' ⟨B, by rw [← hVS]; rfl, hT.keep (fun t ht => by omega) (fun t ht => by omega)⟩)
      generalize fill (VS B) L A0 = A at e22 ⊢
      simp [execOp, go_sem, i64_w, e22, c1]
    · obtain rfl := Option.some.inj ho
      have e23 := fill_getB (B := B) HN hVS hT_ (t := 23) (j := 17) rfl rfl (hpre ⟨17, .data⟩ (by simp) rfl)
      refine st_val HF rfl (by simp) rfl (v := .pointer (some ⟨b3, 0, none⟩)) (w' := w') ?_ (hK _ w' ⟨B, by rw [← hVS]; rfl, hT.keep (fun t ht => by omega) (fun t ht => by omega)⟩)
      generalize fill (VS B) L A0 = A at e23 ⊢
      simp [execOp, go_sem, i64_w, e23]
    · obtain rfl := Option.some.inj ho
      have e24 := fill_getB (B := B) HN hVS hT_ (t := 24) (j := 18) rfl rfl (hpre ⟨18, .data⟩ (by simp) rfl)
      refine st_val HF rfl (by simp) rfl (v := .pointer (some ⟨b3, 0, none⟩)) (w' := w') ?_ (hK _ w' ⟨B, by rw [← hVS]; rfl, hT.keep (fun t ht => by omega) (fun t ht => by omega)⟩)
      generalize fill (VS B) L A0 = A at e24 ⊢
      simp [execOp, go_sem, i64_w, e24]
    · obtain rfl := Option.some.inj ho
      have e25 := fill_getB (B := B) HN hVS hT_ (t := 25) (j := 19) rfl rfl (hpre ⟨19, .data⟩ (by simp) rfl)
      have c1 := (hS.cell (p := ⟨b3, 0, none⟩) s3).trans x3
      have c2 := (hS.cell (p := ⟨b3, 1, none⟩) s3).trans y3
      refine st_val HF rfl (by simp) rfl (v := .agg #[.int .i64 p3.f0, .int .i64 p3.f1]) (w' := w') ?_ (hK _ w' ⟨B, by rw [← hVS]; rfl, hT.keep (fun t ht => by omega) (fun t ht => by omega)⟩)
      generalize fill (VS B) L A0 = A at e25 ⊢
      simp [execOp, go_sem, i64_w, e25, c1, c2]
    · obtain rfl := Option.some.inj ho
      refine st_val HF rfl (by simp) rfl (v := .pointer (some ⟨w'.heap.size, 0, none⟩)) (w' := w'.alloc (.cells #[.int .i64 0, .int .i64 0] 32)) ?_ (hK _ _ ⟨fun t => if t = 0 then w'.heap.size else B t, by rw [← hVS]; rfl, hT.alloc (r := 0) (by decide) (fun t ht hne => by omega) (fun t ht => by omega) (fun hs => ?_) _ (hSa _ hT.sz hS _)⟩)
      · generalize fill (VS B) L A0 = A
        simp [execOp, go_sem]
      · have hq := hcl 24 _ rfl hs ⟨21, .data⟩ (by simp) rfl
        rw [hli] at hq; exact absurd hq (by simp)
    · obtain rfl := Option.some.inj ho
      refine st_val HF rfl (by simp) rfl (v := .pointer (some ⟨w'.heap.size, 0, none⟩)) (w' := w'.alloc (.cells #[.int .i64 0, .int .i64 0] 32)) ?_ (hK _ _ ⟨fun t => if t = 1 then w'.heap.size else B t, by rw [← hVS]; rfl, hT.alloc (r := 1) (by decide) (fun t ht hne => by omega) (fun t ht => by omega) (fun hs => ?_) _ (hSa _ hT.sz hS _)⟩)
      · generalize fill (VS B) L A0 = A
        simp [execOp, go_sem]
      · have hq := hcl 25 _ rfl hs ⟨22, .data⟩ (by simp) rfl
        rw [hli] at hq; exact absurd hq (by simp)
    · obtain rfl := Option.some.inj ho
      refine st_val HF rfl (by simp) rfl (v := .pointer (some ⟨w'.heap.size, 0, none⟩)) (w' := w'.alloc (.cells #[.int .i64 0, .int .i64 0] 32)) ?_ (hK _ _ ⟨fun t => if t = 2 then w'.heap.size else B t, by rw [← hVS]; rfl, hT.alloc (r := 2) (by decide) (fun t ht hne => by omega) (fun t ht => by omega) (fun hs => ?_) _ (hSa _ hT.sz hS _)⟩)
      · generalize fill (VS B) L A0 = A
        simp [execOp, go_sem]
      · have hq := hcl 26 _ rfl hs ⟨23, .data⟩ (by simp) rfl
        rw [hli] at hq; exact absurd hq (by simp)
    · obtain rfl := Option.some.inj ho
      have e3 := fill_getB (B := B) HN hVS hT_ (t := 3) (j := 21) rfl rfl (hpre ⟨21, .data⟩ (by simp) rfl)
      have e9 := fill_getB (B := B) HN hVS hT_ (t := 9) (j := 3) rfl rfl (hpre ⟨3, .data⟩ (by simp) rfl)
      have hal := hpre ⟨21, .data⟩ (by simp) rfl
      obtain ⟨_, _, f0, f1, ⟨u0, k0⟩, ⟨u1, k1⟩, _⟩ := hT.box 0 (by decide) hal
      refine st_skip HF rfl (by simp) rfl (w' := (w'.setCell ⟨B 0, 0, none⟩ (.int .i64 p1.f0)).setCell ⟨B 0, 1, none⟩ (.int .i64 p1.f1)) ?_ (hK _ _ ⟨B, by rw [← hVS]; rfl, hT.store (r := 0) (by decide) (fun t ht hne => by omega) (fun t ht => by omega) hal (fun w' p v h1 h2 => hSs w' p v h1 h2)⟩)
      generalize fill (VS B) L A0 = A at e3 e9 ⊢
      simp [execOp, go_sem, k0, k1, f0, f1, e3, e9]
    · obtain rfl := Option.some.inj ho
      have e4 := fill_getB (B := B) HN hVS hT_ (t := 4) (j := 22) rfl rfl (hpre ⟨22, .data⟩ (by simp) rfl)
      have e16 := fill_getB (B := B) HN hVS hT_ (t := 16) (j := 10) rfl rfl (hpre ⟨10, .data⟩ (by simp) rfl)
      have hal := hpre ⟨22, .data⟩ (by simp) rfl
      obtain ⟨_, _, f0, f1, ⟨u0, k0⟩, ⟨u1, k1⟩, _⟩ := hT.box 1 (by decide) hal
      refine st_skip HF rfl (by simp) rfl (w' := (w'.setCell ⟨B 1, 0, none⟩ (.int .i64 p2.f0)).setCell ⟨B 1, 1, none⟩ (.int .i64 p2.f1)) ?_ (hK _ _ ⟨B, by rw [← hVS]; rfl, hT.store (r := 1) (by decide) (fun t ht hne => by omega) (fun t ht => by omega) hal (fun w' p v h1 h2 => hSs w' p v h1 h2)⟩)
      generalize fill (VS B) L A0 = A at e4 e16 ⊢
      simp [execOp, go_sem, k0, k1, f0, f1, e4, e16]
    · obtain rfl := Option.some.inj ho
      have e5 := fill_getB (B := B) HN hVS hT_ (t := 5) (j := 23) rfl rfl (hpre ⟨23, .data⟩ (by simp) rfl)
      have e26 := fill_getB (B := B) HN hVS hT_ (t := 26) (j := 20) rfl rfl (hpre ⟨20, .data⟩ (by simp) rfl)
      have hal := hpre ⟨23, .data⟩ (by simp) rfl
      obtain ⟨_, _, f0, f1, ⟨u0, k0⟩, ⟨u1, k1⟩, _⟩ := hT.box 2 (by decide) hal
      refine st_skip HF rfl (by simp) rfl (w' := (w'.setCell ⟨B 2, 0, none⟩ (.int .i64 p3.f0)).setCell ⟨B 2, 1, none⟩ (.int .i64 p3.f1)) ?_ (hK _ _ ⟨B, by rw [← hVS]; rfl, hT.store (r := 2) (by decide) (fun t ht hne => by omega) (fun t ht => by omega) hal (fun w' p v h1 h2 => hSs w' p v h1 h2)⟩)
      generalize fill (VS B) L A0 = A at e5 e26 ⊢
      simp [execOp, go_sem, k0, k1, f0, f1, e5, e26]
  · intro vs w' hV
    obtain ⟨B, rfl, hT⟩ := hV
    have hS := hT.s
    obtain ⟨bl0, bt0, bf0, bg0, _, _, bc0⟩ := hT.box 0 (by decide) rfl
    obtain ⟨bx0, by0⟩ := bc0 rfl
    obtain ⟨bl1, bt1, bf1, bg1, _, _, bc1⟩ := hT.box 1 (by decide) rfl
    obtain ⟨bx1, by1⟩ := bc1 rfl
    obtain ⟨bl2, bt2, bf2, bg2, _, _, bc2⟩ := hT.box 2 (by decide) rfl
    obtain ⟨bx2, by2⟩ := bc2 rfl
    rw [← hVS, ← hA0]
    simp only [List.size_toArray, List.length_cons, List.length_nil, Nat.reduceAdd, List.replicate, fill, if_true, Act.put, List.setIfInBounds_toArray, List.set_cons_succ, List.set_cons_zero]
    clear bc0 bc1 bc2 hT
    have HS := Aside0.mk hS
    clear hS
    cases hq : onPt p1 p2 p3
    · have hq' := Aside0.mk ((onPt_f p1 p2 p3).trans (by rw [hq]))
      have hr' := Aside0.mk (onPt_f p2 p3 p1)
      have HQ := Aside0.mk hq
      clear hq
      gi_wp2_with (first | (refine ⟨trivial, rfl, ?_⟩; gi_at_call 79; have _t := hq'; refine CallsIn.mono (callsIn_wide.2 (impl_PointOn.calls 1 p1.f0 p1.f1 p2.f0 p2.f1 p3.f0 p3.f1 false _ hq'.out)) ?_; rintro e w2 ⟨rfl, hb2⟩; obtain ⟨hc2, hf2⟩ := bcell hb2; have HS2 := Aside0.mk (HS.out.trans (hb2.mono (by have := HS.out.size; omega))); clear hb2 hq' _t) | (refine ⟨trivial, rfl, ?_⟩; gi_at_call 79; refine CallsIn.mono (callsIn_wide.2 (impl_PointOn.calls 1 p2.f0 p2.f1 p3.f0 p3.f1 p1.f0 p1.f1 (onPt p2 p3 p1) _ hr'.out)) ?_; rintro e w3 ⟨rfl, hb3⟩; have HS3 := Aside0.mk (HS2.out.trans (hb3.mono (by have := HS2.out.size; omega))); clear hb3))
      go_ret
      exact ⟨by rw [HQ.out]; rfl, HS3.out⟩
    · have hq' := Aside0.mk ((onPt_f p1 p2 p3).trans (by rw [hq]))
      have HQ := Aside0.mk hq
      have hfn : Fence.wide.fn 79 := trivial
      clear hq
      gi_wp2_with ((first | refine ⟨trivial, rfl, ?_⟩ | refine ⟨rfl, ?_⟩); gi_at_call 79; refine CallsIn.mono (callsIn_wide.2 (impl_PointOn.calls 1 p1.f0 p1.f1 p2.f0 p2.f1 p3.f0 p3.f1 true _ hq'.out)) ?_; rintro e w2 ⟨rfl, hb2⟩; have HS2 := Aside0.mk (HS.out.trans (hb2.mono (by have := HS.out.size; omega))); clear hb2)
      go_ret
      exact ⟨by rw [HQ.out]; rfl, HS2.out⟩

end Go.Proofs.Ytgdhgncdpmalcaa.Ring
namespace Go.Proofs.Ytgdhgncdpmalcaa.Drawn
open Go Go.RowKit
structure Bx (w W : World) (a0 a1 b0 b1 c0 c1 d0 d1 : Int) : Prop where
  sz : w.heap.size + 4 ≤ W.heap.size
  be : Below w.heap.size w W
  p0 : W.cell? ⟨w.heap.size, 0, none⟩ = some (.int .i64 a0)
  p1 : W.cell? ⟨w.heap.size, 1, none⟩ = some (.int .i64 a1)
  q0 : W.cell? ⟨w.heap.size + 1, 0, none⟩ = some (.int .i64 b0)
  q1 : W.cell? ⟨w.heap.size + 1, 1, none⟩ = some (.int .i64 b1)
  r0 : W.cell? ⟨w.heap.size + 2, 0, none⟩ = some (.int .i64 c0)
  r1 : W.cell? ⟨w.heap.size + 2, 1, none⟩ = some (.int .i64 c1)
  s0 : W.cell? ⟨w.heap.size + 3, 0, none⟩ = some (.int .i64 d0)
  s1 : W.cell? ⟨w.heap.size + 3, 1, none⟩ = some (.int .i64 d1)
theorem Bx.start (w : World) (T : TypeId) (a0 a1 b0 b1 c0 c1 d0 d1 : Int) : Bx w ((((w.alloc (.cells #[.int .i64 a0, .int .i64 a1] T)).alloc (.cells #[.int .i64 b0, .int .i64 b1] T)).alloc (.cells #[.int .i64 c0, .int .i64 c1] T)).alloc (.cells #[.int .i64 d0, .int .i64 d1] T)) a0 a1 b0 b1 c0 c1 d0 d1 := by
  refine ⟨by simp, ((((Below.refl _ w).alloc (Nat.le_refl _) _).alloc (by simp) _).alloc (by simp; omega) _).alloc (by simp; omega) _, ?_, ?_, ?_, ?_, ?_, ?_, ?_, ?_⟩ <;> simp [go_sem]
theorem Bx.step {w W W' : World} {a0 a1 b0 b1 c0 c1 d0 d1 : Int} (h : Bx w W a0 a1 b0 b1 c0 c1 d0 d1) (hb : Below W.heap.size W W') : Bx w W' a0 a1 b0 b1 c0 c1 d0 d1 := by
  have z := h.sz
  have z2 := hb.size
  refine ⟨by omega, h.be.trans (hb.mono (by omega)), ?_, ?_, ?_, ?_, ?_, ?_, ?_, ?_⟩
  · exact (hb.cell (p := ⟨w.heap.size, 0, none⟩) (by dsimp only; omega)).trans h.p0
  · exact (hb.cell (p := ⟨w.heap.size, 1, none⟩) (by dsimp only; omega)).trans h.p1
  · exact (hb.cell (p := ⟨w.heap.size + 1, 0, none⟩) (by dsimp only; omega)).trans h.q0
  · exact (hb.cell (p := ⟨w.heap.size + 1, 1, none⟩) (by dsimp only; omega)).trans h.q1
  · exact (hb.cell (p := ⟨w.heap.size + 2, 0, none⟩) (by dsimp only; omega)).trans h.r0
  · exact (hb.cell (p := ⟨w.heap.size + 2, 1, none⟩) (by dsimp only; omega)).trans h.r1
  · exact (hb.cell (p := ⟨w.heap.size + 3, 0, none⟩) (by dsimp only; omega)).trans h.s0
  · exact (hb.cell (p := ⟨w.heap.size + 3, 1, none⟩) (by dsimp only; omega)).trans h.s1
end Go.Proofs.Ytgdhgncdpmalcaa.Drawn
namespace Go.Proofs.Ytgdhgncdpmalcaa.Q
open Go.RowKit Go.Proofs.YtgdhgncdpmalcaaW.PrintWords Go.Proofs.YtgdhgncdpmalcaaW.PrintLast Go.Proofs.YtgdhgncdpmalcaaW.PrintMore
attribute [local go_sem] max2_int min2_int max_two min_two max_three min_three max_four min_four
set_option linter.unusedVariables false
set_option linter.unusedSimpArgs false

/-! ### impl_sidesMeet: function 84 -/
def impl_sidesMeet.j0 : Nat → Bool → Int → Int → Int → Int → Int → Int → Int → Int → Option (Bool)
  | 0, _, _, _, _, _, _, _, _, _ => none
  | k + 1, x38, x341000, x341001, x342000, x342001, x343000, x343001, x344000, x344001 => if x38 = true then (some true) else ((impl_PointSide.f k x341000 x341001 x342000 x342001 x343000 x343001).bind fun bt348 => ((impl_PointSide.f k x341000 x341001 x342000 x342001 x344000 x344001).bind fun bt350 => ((impl_PointSide.f k x343000 x343001 x344000 x344001 x341000 x341001).bind fun bt352 => ((impl_PointSide.f k x343000 x343001 x344000 x344001 x342000 x342001).bind fun bt354 => (if (wrap64 (bt348.1 * bt350.1)) < 0 then (some (decide ((wrap64 (bt352.1 * bt354.1)) < 0))) else (some false))))))
def impl_sidesMeet.f (k : Nat) (a0_0 : Int) (a0_1 : Int) (a1_0 : Int) (a1_1 : Int) (a2_0 : Int) (a2_1 : Int) (a3_0 : Int) (a3_1 : Int) : Option (Bool) := (impl_PointOn.f k a0_0 a0_1 a1_0 a1_1 a2_0 a2_1).bind fun t344 => (if t344 = true then (impl_sidesMeet.j0 k true a0_0 a0_1 a1_0 a1_1 a2_0 a2_1 a3_0 a3_1) else ((impl_PointOn.f k a0_0 a0_1 a1_0 a1_1 a3_0 a3_1).bind fun t345 => (if t345 = true then (impl_sidesMeet.j0 k true a0_0 a0_1 a1_0 a1_1 a2_0 a2_1 a3_0 a3_1) else ((impl_PointOn.f k a2_0 a2_1 a3_0 a3_1 a0_0 a0_1).bind fun t346 => (if t346 = true then (impl_sidesMeet.j0 k true a0_0 a0_1 a1_0 a1_1 a2_0 a2_1 a3_0 a3_1) else ((impl_PointOn.f k a2_0 a2_1 a3_0 a3_1 a1_0 a1_1).bind fun t347 => (impl_sidesMeet.j0 k t347 a0_0 a0_1 a1_0 a1_1 a2_0 a2_1 a3_0 a3_1)))))))
set_option maxHeartbeats 8000000 in
set_option maxRecDepth 100000 in
theorem impl_sidesMeet.calls (k : Nat) (a0_0 : Int) (a0_1 : Int) (a1_0 : Int) (a1_1 : Int) (a2_0 : Int) (a2_1 : Int) (a3_0 : Int) (a3_1 : Int) (r : Bool) (w : World) (h : impl_sidesMeet.f k a0_0 a0_1 a1_0 a1_1 a2_0 a2_1 a3_0 a3_1 = some r) :
    Calls Try.prog 84 #[.agg #[.int .i64 a0_0, .int .i64 a0_1], .agg #[.int .i64 a1_0, .int .i64 a1_1], .agg #[.int .i64 a2_0, .int .i64 a2_1], .agg #[.int .i64 a3_0, .int .i64 a3_1]] w fun e w' => e = .returned (.bool r) ∧ Below w.heap.size w w' := by
  have HX := Aside0.mk (Go.Proofs.Ytgdhgncdpmalcaa.Drawn.Bx.start w 32 a0_0 a0_1 a1_0 a1_1 a2_0 a2_1 a3_0 a3_1)
  unfold impl_sidesMeet.f at h
  obtain ⟨b1, F1, h⟩ := Option.bind_eq_some_iff.1 h
  replace F1 := Aside0.mk F1
  have fin1 : ∀ {k : Nat}, impl_sidesMeet.j0 k true a0_0 a0_1 a1_0 a1_1 a2_0 a2_1 a3_0 a3_1 = some r → r = true := by
    intro k h
    cases k with
    | zero => simp [impl_sidesMeet.j0] at h
    | succ k => rw [impl_sidesMeet.j0, if_pos rfl] at h; exact (Option.some.inj h).symm
  cases b1
  case true =>
    obtain rfl := fin1 (by simpa using h)
    (try clear h); clear fin1; go_enter Try.func84, Try.ntmps84; go_wp2_with (first | (go_at_call 79; (first | (with_reducible refine (impl_PointOn.calls _ _ _ _ _ _ _ _ _ F1.out).mono ?_) | (with_reducible refine (impl_PointOn.calls _ _ _ _ _ _ _ _ _ F2.out).mono ?_) | (with_reducible refine (impl_PointOn.calls _ _ _ _ _ _ _ _ _ F3.out).mono ?_) | (with_reducible refine (impl_PointOn.calls _ _ _ _ _ _ _ _ _ F4.out).mono ?_)); rintro e wz ⟨rfl, hb⟩; have HX2 := Aside0.mk (HX.out.step hb); clear hb HX; have HX := HX2; clear HX2; have p0 := HX.out.p0; have p1 := HX.out.p1; have q0 := HX.out.q0; have q1 := HX.out.q1; have r0 := HX.out.r0; have r1 := HX.out.r1; have s0 := HX.out.s0; have s1 := HX.out.s1) | (go_at_call 62; (first | (with_reducible refine (impl_PointSide.calls _ _ _ _ _ _ _ _ _ _  G1.out).mono ?_) | (with_reducible refine (impl_PointSide.calls _ _ _ _ _ _ _ _ _ _  G2.out).mono ?_) | (with_reducible refine (impl_PointSide.calls _ _ _ _ _ _ _ _ _ _  G3.out).mono ?_) | (with_reducible refine (impl_PointSide.calls _ _ _ _ _ _ _ _ _ _  G4.out).mono ?_)); rintro e wz ⟨rfl, hb⟩; have HX2 := Aside0.mk (HX.out.step hb); clear hb HX; have HX := HX2; clear HX2; have p0 := HX.out.p0; have p1 := HX.out.p1; have q0 := HX.out.q0; have q1 := HX.out.q1; have r0 := HX.out.r0; have r1 := HX.out.r1; have s0 := HX.out.s0; have s1 := HX.out.s1)); go_ret; exact ⟨rfl, HX.out.be⟩
  case false =>
    rw [if_neg (by decide)] at h
    obtain ⟨b2, F2, h⟩ := Option.bind_eq_some_iff.1 h
    replace F2 := Aside0.mk F2
    cases b2
    case true =>
      obtain rfl := fin1 (by simpa using h)
      (try clear h); clear fin1; go_enter Try.func84, Try.ntmps84; go_wp2_with (first | (go_at_call 79; (first | (with_reducible refine (impl_PointOn.calls _ _ _ _ _ _ _ _ _ F1.out).mono ?_) | (with_reducible refine (impl_PointOn.calls _ _ _ _ _ _ _ _ _ F2.out).mono ?_) | (with_reducible refine (impl_PointOn.calls _ _ _ _ _ _ _ _ _ F3.out).mono ?_) | (with_reducible refine (impl_PointOn.calls _ _ _ _ _ _ _ _ _ F4.out).mono ?_)); rintro e wz ⟨rfl, hb⟩; have HX2 := Aside0.mk (HX.out.step hb); clear hb HX; have HX := HX2; clear HX2; have p0 := HX.out.p0; have p1 := HX.out.p1; have q0 := HX.out.q0; have q1 := HX.out.q1; have r0 := HX.out.r0; have r1 := HX.out.r1; have s0 := HX.out.s0; have s1 := HX.out.s1) | (go_at_call 62; (first | (with_reducible refine (impl_PointSide.calls _ _ _ _ _ _ _ _ _ _  G1.out).mono ?_) | (with_reducible refine (impl_PointSide.calls _ _ _ _ _ _ _ _ _ _  G2.out).mono ?_) | (with_reducible refine (impl_PointSide.calls _ _ _ _ _ _ _ _ _ _  G3.out).mono ?_) | (with_reducible refine (impl_PointSide.calls _ _ _ _ _ _ _ _ _ _  G4.out).mono ?_)); rintro e wz ⟨rfl, hb⟩; have HX2 := Aside0.mk (HX.out.step hb); clear hb HX; have HX := HX2; clear HX2; have p0 := HX.out.p0; have p1 := HX.out.p1; have q0 := HX.out.q0; have q1 := HX.out.q1; have r0 := HX.out.r0; have r1 := HX.out.r1; have s0 := HX.out.s0; have s1 := HX.out.s1)); go_ret; exact ⟨rfl, HX.out.be⟩
    case false =>
      rw [if_neg (by decide)] at h
      obtain ⟨b3, F3, h⟩ := Option.bind_eq_some_iff.1 h
      replace F3 := Aside0.mk F3
      cases b3
      case true =>
        obtain rfl := fin1 (by simpa using h)
        (try clear h); clear fin1; go_enter Try.func84, Try.ntmps84; go_wp2_with (first | (go_at_call 79; (first | (with_reducible refine (impl_PointOn.calls _ _ _ _ _ _ _ _ _ F1.out).mono ?_) | (with_reducible refine (impl_PointOn.calls _ _ _ _ _ _ _ _ _ F2.out).mono ?_) | (with_reducible refine (impl_PointOn.calls _ _ _ _ _ _ _ _ _ F3.out).mono ?_) | (with_reducible refine (impl_PointOn.calls _ _ _ _ _ _ _ _ _ F4.out).mono ?_)); rintro e wz ⟨rfl, hb⟩; have HX2 := Aside0.mk (HX.out.step hb); clear hb HX; have HX := HX2; clear HX2; have p0 := HX.out.p0; have p1 := HX.out.p1; have q0 := HX.out.q0; have q1 := HX.out.q1; have r0 := HX.out.r0; have r1 := HX.out.r1; have s0 := HX.out.s0; have s1 := HX.out.s1) | (go_at_call 62; (first | (with_reducible refine (impl_PointSide.calls _ _ _ _ _ _ _ _ _ _  G1.out).mono ?_) | (with_reducible refine (impl_PointSide.calls _ _ _ _ _ _ _ _ _ _  G2.out).mono ?_) | (with_reducible refine (impl_PointSide.calls _ _ _ _ _ _ _ _ _ _  G3.out).mono ?_) | (with_reducible refine (impl_PointSide.calls _ _ _ _ _ _ _ _ _ _  G4.out).mono ?_)); rintro e wz ⟨rfl, hb⟩; have HX2 := Aside0.mk (HX.out.step hb); clear hb HX; have HX := HX2; clear HX2; have p0 := HX.out.p0; have p1 := HX.out.p1; have q0 := HX.out.q0; have q1 := HX.out.q1; have r0 := HX.out.r0; have r1 := HX.out.r1; have s0 := HX.out.s0; have s1 := HX.out.s1)); go_ret; exact ⟨rfl, HX.out.be⟩
      case false =>
        rw [if_neg (by decide)] at h
        obtain ⟨b4, F4, h⟩ := Option.bind_eq_some_iff.1 h
        replace F4 := Aside0.mk F4
        cases b4
        case true =>
          obtain rfl := fin1 h
          (try clear h); clear fin1; go_enter Try.func84, Try.ntmps84; go_wp2_with (first | (go_at_call 79; (first | (with_reducible refine (impl_PointOn.calls _ _ _ _ _ _ _ _ _ F1.out).mono ?_) | (with_reducible refine (impl_PointOn.calls _ _ _ _ _ _ _ _ _ F2.out).mono ?_) | (with_reducible refine (impl_PointOn.calls _ _ _ _ _ _ _ _ _ F3.out).mono ?_) | (with_reducible refine (impl_PointOn.calls _ _ _ _ _ _ _ _ _ F4.out).mono ?_)); rintro e wz ⟨rfl, hb⟩; have HX2 := Aside0.mk (HX.out.step hb); clear hb HX; have HX := HX2; clear HX2; have p0 := HX.out.p0; have p1 := HX.out.p1; have q0 := HX.out.q0; have q1 := HX.out.q1; have r0 := HX.out.r0; have r1 := HX.out.r1; have s0 := HX.out.s0; have s1 := HX.out.s1) | (go_at_call 62; (first | (with_reducible refine (impl_PointSide.calls _ _ _ _ _ _ _ _ _ _  G1.out).mono ?_) | (with_reducible refine (impl_PointSide.calls _ _ _ _ _ _ _ _ _ _  G2.out).mono ?_) | (with_reducible refine (impl_PointSide.calls _ _ _ _ _ _ _ _ _ _  G3.out).mono ?_) | (with_reducible refine (impl_PointSide.calls _ _ _ _ _ _ _ _ _ _  G4.out).mono ?_)); rintro e wz ⟨rfl, hb⟩; have HX2 := Aside0.mk (HX.out.step hb); clear hb HX; have HX := HX2; clear HX2; have p0 := HX.out.p0; have p1 := HX.out.p1; have q0 := HX.out.q0; have q1 := HX.out.q1; have r0 := HX.out.r0; have r1 := HX.out.r1; have s0 := HX.out.s0; have s1 := HX.out.s1)); go_ret; exact ⟨rfl, HX.out.be⟩
        case false =>
          cases k with
          | zero => simp [impl_sidesMeet.j0] at h
          | succ k =>
            rw [impl_sidesMeet.j0, if_neg (by decide)] at h
            obtain ⟨⟨t1, o1⟩, G1, h⟩ := Option.bind_eq_some_iff.1 h
            obtain ⟨⟨t2, o2⟩, G2, h⟩ := Option.bind_eq_some_iff.1 h
            obtain ⟨⟨t3, o3⟩, G3, h⟩ := Option.bind_eq_some_iff.1 h
            obtain ⟨⟨t4, o4⟩, G4, h⟩ := Option.bind_eq_some_iff.1 h
            replace G1 := Aside0.mk G1
            replace G2 := Aside0.mk G2
            replace G3 := Aside0.mk G3
            replace G4 := Aside0.mk G4
            dsimp only at h
            by_cases c : wrap64 (t1 * t2) < 0
            · rw [if_pos c] at h
              obtain rfl := Option.some.inj h
              have cb := decide_eq_true c
              clear h c
              (try clear h); clear fin1; go_enter Try.func84, Try.ntmps84; go_wp2_with (first | (go_at_call 79; (first | (with_reducible refine (impl_PointOn.calls _ _ _ _ _ _ _ _ _ F1.out).mono ?_) | (with_reducible refine (impl_PointOn.calls _ _ _ _ _ _ _ _ _ F2.out).mono ?_) | (with_reducible refine (impl_PointOn.calls _ _ _ _ _ _ _ _ _ F3.out).mono ?_) | (with_reducible refine (impl_PointOn.calls _ _ _ _ _ _ _ _ _ F4.out).mono ?_)); rintro e wz ⟨rfl, hb⟩; have HX2 := Aside0.mk (HX.out.step hb); clear hb HX; have HX := HX2; clear HX2; have p0 := HX.out.p0; have p1 := HX.out.p1; have q0 := HX.out.q0; have q1 := HX.out.q1; have r0 := HX.out.r0; have r1 := HX.out.r1; have s0 := HX.out.s0; have s1 := HX.out.s1) | (go_at_call 62; (first | (with_reducible refine (impl_PointSide.calls _ _ _ _ _ _ _ _ _ _  G1.out).mono ?_) | (with_reducible refine (impl_PointSide.calls _ _ _ _ _ _ _ _ _ _  G2.out).mono ?_) | (with_reducible refine (impl_PointSide.calls _ _ _ _ _ _ _ _ _ _  G3.out).mono ?_) | (with_reducible refine (impl_PointSide.calls _ _ _ _ _ _ _ _ _ _  G4.out).mono ?_)); rintro e wz ⟨rfl, hb⟩; have HX2 := Aside0.mk (HX.out.step hb); clear hb HX; have HX := HX2; clear HX2; have p0 := HX.out.p0; have p1 := HX.out.p1; have q0 := HX.out.q0; have q1 := HX.out.q1; have r0 := HX.out.r0; have r1 := HX.out.r1; have s0 := HX.out.s0; have s1 := HX.out.s1)); go_ret; exact ⟨rfl, HX.out.be⟩
            · rw [if_neg c] at h
              obtain rfl := Option.some.inj h
              have cb := decide_eq_false c
              clear h c
              (try clear h); clear fin1; go_enter Try.func84, Try.ntmps84; go_wp2_with (first | (go_at_call 79; (first | (with_reducible refine (impl_PointOn.calls _ _ _ _ _ _ _ _ _ F1.out).mono ?_) | (with_reducible refine (impl_PointOn.calls _ _ _ _ _ _ _ _ _ F2.out).mono ?_) | (with_reducible refine (impl_PointOn.calls _ _ _ _ _ _ _ _ _ F3.out).mono ?_) | (with_reducible refine (impl_PointOn.calls _ _ _ _ _ _ _ _ _ F4.out).mono ?_)); rintro e wz ⟨rfl, hb⟩; have HX2 := Aside0.mk (HX.out.step hb); clear hb HX; have HX := HX2; clear HX2; have p0 := HX.out.p0; have p1 := HX.out.p1; have q0 := HX.out.q0; have q1 := HX.out.q1; have r0 := HX.out.r0; have r1 := HX.out.r1; have s0 := HX.out.s0; have s1 := HX.out.s1) | (go_at_call 62; (first | (with_reducible refine (impl_PointSide.calls _ _ _ _ _ _ _ _ _ _  G1.out).mono ?_) | (with_reducible refine (impl_PointSide.calls _ _ _ _ _ _ _ _ _ _  G2.out).mono ?_) | (with_reducible refine (impl_PointSide.calls _ _ _ _ _ _ _ _ _ _  G3.out).mono ?_) | (with_reducible refine (impl_PointSide.calls _ _ _ _ _ _ _ _ _ _  G4.out).mono ?_)); rintro e wz ⟨rfl, hb⟩; have HX2 := Aside0.mk (HX.out.step hb); clear hb HX; have HX := HX2; clear HX2; have p0 := HX.out.p0; have p1 := HX.out.p1; have q0 := HX.out.q0; have q1 := HX.out.q1; have r0 := HX.out.r0; have r1 := HX.out.r1; have s0 := HX.out.s0; have s1 := HX.out.s1)); go_ret; exact ⟨rfl, HX.out.be⟩

end Go.Proofs.Ytgdhgncdpmalcaa.Q
namespace Go.Proofs.Ytgdhgncdpmalcaa.Ring
open Go.RowKit Go.Shelf Go.Proofs.Ytgdhgncdpmalcaa.Q Go.Proofs.Ytgdhgncdpmalcaa.Drawn Go.Proofs.YtgdhgncdpmalcaaW.PrintWords Go.Proofs.YtgdhgncdpmalcaaW.PrintLast Go.Proofs.YtgdhgncdpmalcaaW.PrintMore
set_option linter.unusedVariables false
set_option linter.unusedSimpArgs false
attribute [local go_sem] Oper.semAt_some
def sameP (p q : Pt) : Bool := p.f0 == q.f0 && (p.f1 == q.f1)
theorem run_samePt (d : Nat) (w : World) (x0 y0 x1 y1 : Int) : (Op.equalIn (d + 2) 32 (.agg #[.int .i64 x0, .int .i64 x1]) (.agg #[.int .i64 y0, .int .i64 y1])).run Try.prog w = .ok (x0 == y0 && (x1 == y1)) w := by
  refine eqA_of Try.underlying32 (by kernel_rfl) ?_
  refine eqf_cons (by rfl) (by go_simp; rfl) (by go_simp; rfl) (by go_simp) ?_
  exact eqf_last (by rfl) (by go_simp; rfl) (by go_simp; rfl) (by go_simp)
def sgnP (p q r : Pt) : Int := (Pure.sideR p.f0 p.f1 q.f0 q.f1 r.f0 r.f1).1
def meetPt (a b c d : Pt) : Bool := onPt a b c || onPt a b d || onPt c d a || onPt c d b || (decide (sgnP a b c * sgnP a b d < 0) && decide (sgnP c d a * sgnP c d b < 0))
theorem sgnP_bd (p q r : Pt) : -1 ≤ sgnP p q r ∧ sgnP p q r ≤ 1 := by
  unfold sgnP Pure.sideR Pure.sgn
  split
  · dsimp only; repeat' split
    all_goals omega
  · dsimp only; omega
theorem wrapS {x y : Int} (hx : -1 ≤ x ∧ x ≤ 1) (hy : -1 ≤ y ∧ y ≤ 1) : wrap64 (x * y) = x * y := by
  have := Pure.mul_bd (m := 1) (n := 1) hx hy (by omega) (by omega)
  unfold wrap64; omega
theorem meetPt_f (a b c d : Pt) : impl_sidesMeet.f 2 a.f0 a.f1 b.f0 b.f1 c.f0 c.f1 d.f0 d.f1 = some (meetPt a b c d) := by
  unfold impl_sidesMeet.f meetPt
  simp only [impl_sidesMeet.j0, Pure.impl_PointOn_eq, Pure.impl_PointSide_eq, Option.bind_some]
  have e : ∀ p q r : Pt, Pure.onR p.f0 p.f1 q.f0 q.f1 r.f0 r.f1 = onPt p q r := fun _ _ _ => rfl
  have e2 : ∀ p q r : Pt, (Pure.sideR p.f0 p.f1 q.f0 q.f1 r.f0 r.f1).1 = sgnP p q r := fun _ _ _ => rfl
  simp only [e, e2, wrapS (sgnP_bd _ _ _) (sgnP_bd _ _ _)]
  cases onPt a b c <;> cases onPt a b d <;> cases onPt c d a <;> cases onPt c d b <;> simp
  by_cases h : sgnP a b c * sgnP a b d < 0 <;> simp [h]
/-- Corner k is met again, t places after the next one. -/
def dupAt (l : List Pt) (k t : Nat) : Bool := sameP (at_ l ((k + 1 + t) % l.length)) (at_ l k)
def foldAt (l : List Pt) (k : Nat) : Bool := onPt (at_ l k) (nxt l k) (nxt l ((k + 1) % l.length)) || onPt (nxt l k) (nxt l ((k + 1) % l.length)) (at_ l k)
/-- Side k meets side k + 2 + t. -/
def meetAt (l : List Pt) (k t : Nat) : Bool := meetPt (at_ l k) (nxt l k) (at_ l ((k + 2 + t) % l.length)) (nxt l ((k + 2 + t) % l.length))
def simpleB (l : List Pt) : Bool := ((List.range l.length).all fun i => (List.range (l.length - 1)).all fun t => !dupAt l i t) && ((List.range l.length).all fun i => !foldAt l i && (List.range (l.length - 3)).all fun t => !meetAt l i t)
theorem simpleB_dup {l : List Pt} {i t : Nat} (hi : i < l.length) (ht : t < l.length - 1) (h : dupAt l i t = true) : simpleB l = false := by
  apply Bool.eq_false_iff.2
  intro c
  unfold simpleB at c
  simp only [Bool.and_eq_true, List.all_eq_true, List.mem_range] at c
  have := c.1 i hi t ht
  rw [h] at this; exact absurd this (by decide)
theorem simpleB_fold {l : List Pt} {i : Nat} (hi : i < l.length) (h : foldAt l i = true) : simpleB l = false := by
  apply Bool.eq_false_iff.2
  intro c
  unfold simpleB at c
  simp only [Bool.and_eq_true, List.all_eq_true, List.mem_range] at c
  have := (c.2 i hi).1
  rw [h] at this; exact absurd this (by decide)
theorem simpleB_meet {l : List Pt} {i t : Nat} (hi : i < l.length) (ht : t < l.length - 3) (h : meetAt l i t = true) : simpleB l = false := by
  apply Bool.eq_false_iff.2
  intro c
  unfold simpleB at c
  simp only [Bool.and_eq_true, List.all_eq_true, List.mem_range] at c
  have := (c.2 i hi).2 t ht
  rw [h] at this; exact absurd this (by decide)
theorem simpleB_yes {l : List Pt} (h1 : ∀ i, i < l.length → ∀ t, t < l.length - 1 → dupAt l i t = false) (h2 : ∀ i, i < l.length → foldAt l i = false ∧ ∀ t, t < l.length - 3 → meetAt l i t = false) : simpleB l = true := by
  unfold simpleB
  simp only [Bool.and_eq_true, List.all_eq_true, List.mem_range]
  exact ⟨fun i hi t ht => by rw [h1 i hi t ht]; rfl, fun i hi => ⟨by rw [(h2 i hi).1]; rfl, fun t ht => by rw [(h2 i hi).2 t ht]; rfl⟩⟩
theorem infoCorner : (Try.prog.info? 75).map (fun i => i.size) = some 3 := by kernel_rfl
theorem run_neq_same (w : World) (a : Addr) : (binOp .neq 52 (.pointer (some a)) (.pointer (some a))).run Try.prog w = .ok (.bool false) w := by
  obtain ⟨j, hj⟩ : ∃ j, Try.prog.info? 75 = some j := by
    have := infoCorner
    cases h : Try.prog.info? 75 with
    | none => rw [h] at this; cases this
    | some j => exact ⟨j, rfl⟩
  exact Lib.run_neq_ptr_same w a Try.underlying52 hj
theorem run_neq_other (w : World) {a b : Nat} (h : a ≠ b) (ha : Plain w a) (hb : Plain w b) : (binOp .neq 52 (.pointer (some ⟨a, 0, none⟩)) (.pointer (some ⟨b, 0, none⟩))).run Try.prog w = .ok (.bool true) w := by
  obtain ⟨j, hj, hz⟩ : ∃ j, Try.prog.info? 75 = some j ∧ j.size ≠ 0 := by
    have := infoCorner
    cases h : Try.prog.info? 75 with
    | none => rw [h] at this; cases this
    | some j => rw [h] at this; simp at this; exact ⟨j, rfl, by omega⟩
  obtain ⟨ca, ta, ha⟩ := ha
  obtain ⟨cb, tb, hb⟩ := hb
  have hab : (⟨a, 0, none⟩ : Addr) ≠ ⟨b, 0, none⟩ := fun e => h (by injection e)
  have hd : ∀ d : Nat, (Op.equalIn (d + 1) 52 (.pointer (some ⟨a, 0, none⟩)) (.pointer (some ⟨b, 0, none⟩))).run Try.prog w = .ok false w := fun d => by
    simp [Op.equalIn, run_underlying Try.underlying52, sizeOf, typeInfo, hj, hz, run_sameAddr_other w hab ha hb]
  simp only [binOp]
  simp [Op.equal, Op.maxDepth, hd 9999]
theorem mod_ne {k t n : Nat} (hk : k < n) (ht : t < n - 1) : (k + 1 + t) % n ≠ k := by
  intro e
  rcases Nat.lt_or_ge (k + 1 + t) n with q | q
  · rw [Nat.mod_eq_of_lt q] at e; omega
  · rw [Nat.mod_eq_sub_mod q, Nat.mod_eq_of_lt (by omega)] at e; omega
theorem mod_round {k n : Nat} (hk : k < n) (hn : 1 ≤ n) : (k + 1 + (n - 1)) % n = k := by
  rw [show k + 1 + (n - 1) = k + n from by omega, Nat.add_mod_right, Nat.mod_eq_of_lt hk]
theorem mod_next (a n : Nat) : (a % n + 1) % n = (a + 1) % n := by rw [Nat.mod_add_mod]
set_option maxRecDepth 100000 in
set_option maxHeartbeats 8000000 in
theorem simple_calls (top : Nat) (bs : Nat → Nat) (l : List Pt) (w : World) (hR : Ring w top bs l) (htop : top ≤ w.heap.size) :
    Calls Try.prog 76 #[.agg #[.pointer (some ⟨bs 0, 0, none⟩), .int .i64 l.length]] w fun e w' => e = .returned (.bool (simpleB l)) ∧ Below w.heap.size w w' := by
  refine (callsIn_wide (n := 0)).1 (callsIn_of_wp_marks Try.func76 rfl trivial ?_ rfl)
  simp only [Try.ntmps76, List.size_toArray, List.length_cons, List.length_nil, Nat.reduceAdd, Nat.reduceSub, Array.replicate_succ, Array.replicate_zero, List.push_toArray, List.append_toArray, List.nil_append, List.cons_append]
  have HR := Aside0.mk hR
  clear hR
  gi_wp2
  have hs : ((w.alloc (.cells #[.pointer (some ⟨bs 0, 0, none⟩), .int .i64 l.length] 54)).alloc (.cells #[.bool false] 4)).heap.size = w.heap.size + 2 := by simp
  obtain ⟨W0, hW0⟩ : ∃ W0, (w.alloc (.cells #[.pointer (some ⟨bs 0, 0, none⟩), .int .i64 l.length] 54)).alloc (.cells #[.bool false] 4) = W0 := ⟨_, rfl⟩
  have hc0 : W0.cell? ⟨w.heap.size + 1, 0, none⟩ = some (.bool false) := by rw [← hW0]; simp [go_sem]
  have hf0 : W0.frozen? ⟨w.heap.size + 1, 0, none⟩ = false := by rw [← hW0]; simp [go_sem]
  have ho0 : W0.cell? ⟨w.heap.size, 0, none⟩ = some (.pointer (some ⟨bs 0, 0, none⟩)) := by rw [← hW0]; simp [go_sem]
  have ho1 : W0.cell? ⟨w.heap.size, 1, none⟩ = some (.int .i64 l.length) := by rw [← hW0]; simp [go_sem]
  have hb0 : Below w.heap.size w W0 := by rw [← hW0]; exact ((Below.refl _ w).alloc (Nat.le_refl _) _).alloc (by simp) _
  rw [hW0] at hs ⊢
  clear hW0
  have HR0 := Aside0.mk ((HR.out.mono htop).below hb0)
  have kd : ∀ (D : Nat) (o : Obj), D < W0.heap.size → OwnFrom W0.heap.size (fun (_ : Nat) (W : World) => W.heap[D]? = some o) := fun D o hD => fun s A B row hs hg hr => (hg.block D (Array.getElem?_eq_some_iff.1 hs).1 (fun e => by have := (hr D e.symm).1; omega)).trans hs
  refine range_ring W0.heap.size bs l (HR0.out.mono (by omega)) (Nat.le_refl _) rfl
    (fun j W => (∀ i, i < j → ∀ t, t < l.length - 1 → dupAt l i t = false) ∧ Below W0.heap.size W0 W)
    (fun c W => c = .ret ∧ (W.cell? ⟨w.heap.size + 1, 0, none⟩ = some (.bool false) ∧ Below w.heap.size w W) ∧ ∃ i t, i < l.length ∧ t < l.length - 1 ∧ dupAt l i t = true)
    ?hI ?hIx ⟨fun i hi => by omega, Below.refl _ _⟩ ?a1 ?assign ?body ?done ?stop
  case hI => exact fun s A B row hs hg hr => ⟨hs.1, ownFrom_below (β := Unit) (Nat.le_refl _) (Nat.le_refl _) () A B row hs.2 hg hr⟩
  case hIx => exact fun c A B row hs hg hr => ⟨hs.1, ⟨cell_kept hs.2.1.1 hg (fun r e => (hr r e).2), ownFrom_below (β := Unit) (n₀ := w.heap.size) (w₀ := w) (Nat.le_refl _) (by omega) () A B row hs.2.1.2 hg hr⟩, hs.2.2⟩
  case assign =>
    intro r k W K hK
    gi_wp2
    exact hK
  case stop =>
    rintro D c W hD ⟨rfl, ⟨hc, hb⟩, i, t, hi, ht, hd⟩ hK
    have hsb := Aside0.mk (simpleB_dup hi ht hd)
    have hcD : (W.putObj D (.deferred none)).cell? ⟨w.heap.size + 1, 0, none⟩ = some (.bool false) := cell_kept hc (grownBy_putObj' _ D (.deferred none)) (fun r e => by cases e; exact ⟨_, hK, rfl⟩)
    gi_wp2
    refine ⟨by simp, .inl ⟨_, _, rfl, run_takeDeferred hK, ?_⟩⟩
    refine ⟨_, qq78, ?_, hb.trans (belowK_b (w := W0) (by omega) _ _ _ _ hD hK rfl rfl)⟩
    rw [hsb.out]
  case body =>
    rintro r k W hk ⟨hp, hb⟩ hbt
    have HF := wide_round Try.prog r
    have hbw : Below w.heap.size w W := hb0.trans (hb.mono (by omega))
    have hcW := (hb.cell (p := ⟨w.heap.size + 1, 0, none⟩) (by dsimp only; omega)).trans hc0
    have hfW := (hb.frozen (p := ⟨w.heap.size + 1, 0, none⟩) (by dsimp only; omega)).trans hf0
    have hRW := Aside0.mk (((HR0.out.mono (show w.heap.size ≤ W0.heap.size by omega)).below hb).mono hb.size)
    have hn3 := HR.out.pos
    have hnx := hRW.out.next k hk
    gi_wp2
    gi_loopg [4] (l.length - 1) (fun g v4 wr => ∃ t : Nat, t + g = l.length - 1 ∧ v4 = .pointer (some ⟨bs ((k + 1 + t) % l.length), 0, none⟩) ∧ Aside0 (∀ s, s < t → dupAt l k s = false) ∧ Aside0 (Below W.heap.size W wr))
    case atStart => exact ⟨0, by omega, rfl, ⟨fun s hs => by omega⟩, ⟨Below.refl _ _⟩⟩
    case round =>
      obtain ⟨t, ht, rfl, HD, HB⟩ := hrel
      clear hcW hfW
      cases gk with
      | zero =>
        obtain rfl : t = l.length - 1 := by omega
        rw [mod_round hk (by omega)]
        have hq := run_neq_same wr ⟨bs k, 0, none⟩
        gi_wp2
        refine ⟨KeepsFrom.of_below HB.out, HB.out.mono hb.size, fun i hi t ht => ?_, hb.trans (HB.out.mono hb.size)⟩
        by_cases e : i = k
        · subst e; exact HD.out t ht
        · exact hp i (by omega) t ht
      | succ g =>
        have hRr := Aside0.mk (hRW.out.below HB.out)
        have hjl : (k + 1 + t) % l.length < l.length := Nat.mod_lt _ (by omega)
        have hne : bs ((k + 1 + t) % l.length) ≠ bs k := fun e => mod_ne hk (by omega) (hRr.out.inj _ _ hjl hk e)
        have hq := run_neq_other wr hne (hRr.out.blk _ hjl) (hRr.out.blk _ hk)
        have hjn0 := Aside0.mk (fun w' (h : Below wr.heap.size wr w') => (hRr.out.mono HB.out.size).below h |>.next _ hjl)
        rw [mod_next] at hjn0
        have hrx := Aside0.mk (fun w' (h : Below wr.heap.size wr w') => (hRr.out.mono HB.out.size).below h |>.x k hk)
        have hry := Aside0.mk (fun w' (h : Below wr.heap.size wr w') => (hRr.out.mono HB.out.size).below h |>.y k hk)
        have hjx := Aside0.mk (fun w' (h : Below wr.heap.size wr w') => (hRr.out.mono HB.out.size).below h |>.x _ hjl)
        have hjy := Aside0.mk (fun w' (h : Below wr.heap.size wr w') => (hRr.out.mono HB.out.size).below h |>.y _ hjl)
        have hdj := Aside0.mk (show dupAt l k t = sameP (at_ l ((k + 1 + t) % l.length)) (at_ l k) from rfl)
        generalize (k + 1 + t) % l.length = j at *
        clear hne
        gi_wp2
        clear hq
        obtain ⟨VS, hVS⟩ : ∃ VS : List (Option Tmp × Value), [(some 21, .pointer (some ⟨bs j, 0, none⟩)), (some 22, .pointer (some ⟨bs j, 0, none⟩)), (some 23, .pointer (some ⟨bs j, 0, none⟩)), (some 24, .agg #[.int .i64 (at_ l j).f0, .int .i64 (at_ l j).f1]), (some 25, .pointer (some ⟨bs k, 0, none⟩)), (some 26, .pointer (some ⟨bs k, 0, none⟩)), (some 27, .pointer (some ⟨bs k, 0, none⟩)), (some 28, .agg #[.int .i64 (at_ l k).f0, .int .i64 (at_ l k).f1]), (some 29, .bool (sameP (at_ l j) (at_ l k)))] = VS := ⟨_, rfl⟩
        have HN : (VS.filterMap (·.1)).Nodup := by rw [← hVS]; exact (show List.Nodup [(21 : Tmp), (22 : Tmp), (23 : Tmp), (24 : Tmp), (25 : Tmp), (26 : Tmp), (27 : Tmp), (28 : Tmp), (29 : Tmp)] by decide)
        refine act_name fun A0 hA0 => ?_
        have E3 : ∀ L : List Bool, (fill VS L A0).tmps[3]?.getD undef = .pointer (some ⟨bs k, 0, none⟩) := fun L => fill_old _ _ _ (by rw [← hVS]; exact (show (3 : Tmp) ∉ [(21 : Tmp), (22 : Tmp), (23 : Tmp), (24 : Tmp), (25 : Tmp), (26 : Tmp), (27 : Tmp), (28 : Tmp), (29 : Tmp)] by decide)) (by rw [← hA0]; rfl)
        have E4 : ∀ L : List Bool, (fill VS L A0).tmps[4]?.getD undef = .pointer (some ⟨bs j, 0, none⟩) := fun L => fill_old _ _ _ (by rw [← hVS]; exact (show (4 : Tmp) ∉ [(21 : Tmp), (22 : Tmp), (23 : Tmp), (24 : Tmp), (25 : Tmp), (26 : Tmp), (27 : Tmp), (28 : Tmp), (29 : Tmp)] by decide)) (by rw [← hA0]; rfl)
        have hT_ : 29 < A0.tmps.size := by rw [← hA0]; simp
        refine drawn_same (by kernel_rfl) (early_spec (by kernel_rfl)) VS (by rw [← hVS]; rfl) HN (fun w' => Below wr.heap.size wr w') ((Below.refl _ _).drew) ?_ ?_
        · intro i o v L w' ho hv hpre hS K hK
          have hii : i = 0 ∨ i = 1 ∨ i = 2 ∨ i = 3 ∨ i = 4 ∨ i = 5 ∨ i = 6 ∨ i = 7 ∨ i = 8 := by have hq := (Array.getElem?_eq_some_iff.1 ho).1; simp at hq; omega
          rcases hii with rfl | rfl | rfl | rfl | rfl | rfl | rfl | rfl | rfl
          · obtain rfl := Option.some.inj ho
            obtain rfl := vs_at hVS hv rfl
            have e4 := E4 L
            refine st_val HF rfl (by simp) rfl (w' := w') ?_ (hK w' hS)
            generalize fill VS L A0 = A at e4 ⊢
            simp [execOp, go_sem, i64_w, e4]
          · obtain rfl := Option.some.inj ho
            obtain rfl := vs_at hVS hv rfl
            have e21 := fill_get HN hVS hT_ (t := 21) (j := 0) rfl rfl (hpre ⟨0, .data⟩ (by simp) rfl)
            refine st_val HF rfl (by simp) rfl (w' := w') ?_ (hK w' hS)
            generalize fill VS L A0 = A at e21 ⊢
            simp [execOp, go_sem, i64_w, e21]
          · obtain rfl := Option.some.inj ho
            obtain rfl := vs_at hVS hv rfl
            have e22 := fill_get HN hVS hT_ (t := 22) (j := 1) rfl rfl (hpre ⟨1, .data⟩ (by simp) rfl)
            refine st_val HF rfl (by simp) rfl (w' := w') ?_ (hK w' hS)
            generalize fill VS L A0 = A at e22 ⊢
            simp [execOp, go_sem, i64_w, e22]
          · obtain rfl := Option.some.inj ho
            obtain rfl := vs_at hVS hv rfl
            have e23 := fill_get HN hVS hT_ (t := 23) (j := 2) rfl rfl (hpre ⟨2, .data⟩ (by simp) rfl)
            have c1 := hjx.out w' hS
            have c2 := hjy.out w' hS
            refine st_val HF rfl (by simp) rfl (w' := w') ?_ (hK w' hS)
            generalize fill VS L A0 = A at e23 ⊢
            simp [execOp, go_sem, i64_w, e23, c1, c2]
          · obtain rfl := Option.some.inj ho
            obtain rfl := vs_at hVS hv rfl
            have e3 := E3 L
            refine st_val HF rfl (by simp) rfl (w' := w') ?_ (hK w' hS)
            generalize fill VS L A0 = A at e3 ⊢
            simp [execOp, go_sem, i64_w, e3]
          · obtain rfl := Option.some.inj ho
            obtain rfl := vs_at hVS hv rfl
            have e25 := fill_get HN hVS hT_ (t := 25) (j := 4) rfl rfl (hpre ⟨4, .data⟩ (by simp) rfl)
            refine st_val HF rfl (by simp) rfl (w' := w') ?_ (hK w' hS)
            generalize fill VS L A0 = A at e25 ⊢
            simp [execOp, go_sem, i64_w, e25]
          · obtain rfl := Option.some.inj ho
            obtain rfl := vs_at hVS hv rfl
            have e26 := fill_get HN hVS hT_ (t := 26) (j := 5) rfl rfl (hpre ⟨5, .data⟩ (by simp) rfl)
            refine st_val HF rfl (by simp) rfl (w' := w') ?_ (hK w' hS)
            generalize fill VS L A0 = A at e26 ⊢
            simp [execOp, go_sem, i64_w, e26]
          · obtain rfl := Option.some.inj ho
            obtain rfl := vs_at hVS hv rfl
            have e27 := fill_get HN hVS hT_ (t := 27) (j := 6) rfl rfl (hpre ⟨6, .data⟩ (by simp) rfl)
            have c1 := hrx.out w' hS
            have c2 := hry.out w' hS
            refine st_val HF rfl (by simp) rfl (w' := w') ?_ (hK w' hS)
            generalize fill VS L A0 = A at e27 ⊢
            simp [execOp, go_sem, i64_w, e27, c1, c2]
          · obtain rfl := Option.some.inj ho
            obtain rfl := vs_at hVS hv rfl
            have e24 := fill_get HN hVS hT_ (t := 24) (j := 3) rfl rfl (hpre ⟨3, .data⟩ (by simp) rfl)
            have e28 := fill_get HN hVS hT_ (t := 28) (j := 7) rfl rfl (hpre ⟨7, .data⟩ (by simp) rfl)
            have e24 := fill_get HN hVS hT_ (t := 24) (j := 3) rfl rfl (hpre ⟨3, .data⟩ (by simp) rfl)
            have e28 := fill_get HN hVS hT_ (t := 28) (j := 7) rfl rfl (hpre ⟨7, .data⟩ (by simp) rfl)
            refine st_val HF rfl (by simp) rfl (w' := w') ?_ (hK w' hS)
            generalize fill VS L A0 = A at e24 e28 ⊢
            simp [execOp, go_sem, e24, e28, run_samePt]
            rfl
        · intro w' hS'
          rw [← hVS, ← hA0]
          simp only [List.size_toArray, List.length_cons, List.length_nil, Nat.reduceAdd, List.replicate, fill, if_true, Act.put, List.setIfInBounds_toArray, List.set_cons_succ, List.set_cons_zero]
          clear HN E3 E4 hVS hA0 hT_
          have HS := Aside0.mk (HB.out.trans (hS'.mono HB.out.size))
          have hjn := hjn0.out w' hS'
          have hcW := ((hb.trans (HS.out.mono hb.size)).cell (p := ⟨w.heap.size + 1, 0, none⟩) (by dsimp only; omega)).trans hc0
          have hfW := ((hb.trans (HS.out.mono hb.size)).frozen (p := ⟨w.heap.size + 1, 0, none⟩) (by dsimp only; omega)).trans hf0
          clear hS'
          cases hd : sameP (at_ l j) (at_ l k)
          · have hdt := Aside0.mk (hdj.out.trans hd)
            clear hd
            gi_wp2
            gi_roundg g
            case measure => omega
            case rel => exact ⟨t + 1, by omega, rfl, ⟨fun s hs => by
              by_cases e : s = t
              · subst e; exact hdt.out
              · exact HD.out s (by omega)⟩, HS⟩
          · have hdt := Aside0.mk (hdj.out.trans hd)
            clear hd
            gi_wp2
            refine ⟨(KeepsFrom.of_below HS.out).trans ((KeepsOthers.setCell _ _ _).from _), rfl, ⟨World.cell?_setCell_same _ _ _ hcW, (hbw.trans (HS.out.mono hbw.size)).setCell (p := ⟨w.heap.size + 1, 0, none⟩) (by dsimp only; omega) _⟩, k, t, hk, by omega, hdt.out⟩
  case done =>
    rintro D W hD ⟨hp, hb⟩ hK
    have ho0' := (hb.cell (p := ⟨w.heap.size, 0, none⟩) (by dsimp only; omega)).trans ho0
    have ho1' := (hb.cell (p := ⟨w.heap.size, 1, none⟩) (by dsimp only; omega)).trans ho1
    have hlD := (Array.getElem?_eq_some_iff.1 hK).1
    have hs1 := hb.size
    gi_wp2
    refine range_ring W.heap.size bs l ((HR0.out.below (hb.mono (by omega))).mono (by omega)) (Nat.le_refl _) rfl
      (fun j V => (∀ i, i < j → foldAt l i = false ∧ ∀ t, t < l.length - 3 → meetAt l i t = false) ∧ Below W.heap.size W V)
      (fun c V => c = .ret ∧ (V.cell? ⟨w.heap.size + 1, 0, none⟩ = some (.bool false) ∧ Below w.heap.size w V ∧ V.heap[D]? = some (.deferred (some []))) ∧ simpleB l = false)
      ?hI2 ?hIx2 ⟨fun i hi => by omega, Below.refl _ _⟩ ?a2 ?assign2 ?body2 ?done2 ?stop2
    case hI2 => exact fun s A B row hs hg hr => ⟨hs.1, ownFrom_below (β := Unit) (Nat.le_refl _) (Nat.le_refl _) () A B row hs.2 hg hr⟩
    case hIx2 => exact fun c A B row hs hg hr => ⟨hs.1, ⟨cell_kept hs.2.1.1 hg (fun r e => (hr r e).2), ownFrom_below (β := Unit) (n₀ := w.heap.size) (w₀ := w) (Nat.le_refl _) (by omega) () A B row hs.2.1.2.1 hg hr,
      (hg.block D (Array.getElem?_eq_some_iff.1 hs.2.1.2.2).1 (fun e => by have := (hr D e.symm).1; omega)).trans hs.2.1.2.2⟩, hs.2.2⟩
    case assign2 =>
      intro r k V K hK
      gi_wp2
      exact hK
    case stop2 =>
      rintro D2 c V hD2 ⟨rfl, ⟨hc, hbV, hKD⟩, hsb⟩ hK2
      have hne : D ≠ D2 := by omega
      have hKD2 : (V.putObj D2 (.deferred none)).heap[D]? = some (.deferred (some [])) := (World.putObj_heap_other hne).trans hKD
      have hcD : ((V.putObj D2 (.deferred none)).putObj D (.deferred none)).cell? ⟨w.heap.size + 1, 0, none⟩ = some (.bool false) :=
        cell_kept (cell_kept hc (grownBy_putObj' _ D2 (.deferred none)) (fun r e => by cases e; exact ⟨_, hK2, rfl⟩)) (grownBy_putObj' _ D (.deferred none)) (fun r e => by cases e; exact ⟨_, hKD2, rfl⟩)
      have hSB := Aside0.mk hsb
      clear hsb
      gi_wp2
      refine ⟨by simp, .inl ⟨_, _, rfl, run_takeDeferred hK2, by simp, .inl ⟨_, _, rfl, run_takeDeferred hKD2, ?_⟩⟩⟩
      refine ⟨_, qq78, by rw [hSB.out], (hbV.trans (belowK_b (w := W0) (by omega) _ _ _ _ (by omega) hK2 rfl rfl)).trans (belowK_b (w := W0) (by omega) _ _ _ _ hD hKD2 rfl rfl)⟩
    case done2 =>
      rintro D2 V hD2 ⟨hp2, hbV⟩ hK2
      have hSB := Aside0.mk (simpleB_yes hp hp2)
      have hbV0 := hb.trans (hbV.mono hs1)
      have hcV := (hbV0.cell (p := ⟨w.heap.size + 1, 0, none⟩) (by dsimp only; omega)).trans hc0
      have hfV := (hbV0.frozen (p := ⟨w.heap.size + 1, 0, none⟩) (by dsimp only; omega)).trans hf0
      have hne : D ≠ D2 := by omega
      have hKV := (hbV.block D hlD).trans hK
      have hK2' := (KeepsOthers.setCell V ⟨w.heap.size + 1, 0, none⟩ (.bool true)).same D2 _ hK2 rfl
      have hKV' : ((V.setCell ⟨w.heap.size + 1, 0, none⟩ (.bool true)).putObj D2 (.deferred none)).heap[D]? = some (.deferred (some [])) := (World.putObj_heap_other hne).trans ((KeepsOthers.setCell V ⟨w.heap.size + 1, 0, none⟩ (.bool true)).same D _ hKV rfl)
      have hcD : (((V.setCell ⟨w.heap.size + 1, 0, none⟩ (.bool true)).putObj D2 (.deferred none)).putObj D (.deferred none)).cell? ⟨w.heap.size + 1, 0, none⟩ = some (.bool true) :=
        cell_kept (cell_kept (World.cell?_setCell_same _ _ _ hcV) (grownBy_putObj' _ D2 (.deferred none)) (fun r e => by cases e; exact ⟨_, hK2', rfl⟩)) (grownBy_putObj' _ D (.deferred none)) (fun r e => by cases e; exact ⟨_, hKV', rfl⟩)
      have hbE : Below w.heap.size w (((V.setCell ⟨w.heap.size + 1, 0, none⟩ (.bool true)).putObj D2 (.deferred none)).putObj D (.deferred none)) :=
        (((hb0.trans (hbV0.mono (by omega))).setCell (p := ⟨w.heap.size + 1, 0, none⟩) (by dsimp only; omega) _).trans (belowK_b (w := W0) (by omega) _ _ _ _ (by omega) hK2' rfl rfl)).trans (belowK_b (w := W0) (by omega) _ _ _ _ hD hKV' rfl rfl)
      clear hp hp2
      gi_wp2
      refine ⟨by simp, .inl ⟨_, _, rfl, run_takeDeferred hK2', by simp, .inl ⟨_, _, rfl, run_takeDeferred hKV', ?_⟩⟩⟩
      exact ⟨_, qq78, by rw [hSB.out], hbE⟩
    case body2 =>
      rintro r k V hk ⟨hp2, hbV⟩ hbt
      have HF := wide_round Try.prog r
      have hbV0 := hb.trans (hbV.mono hs1)
      have hRV := Aside0.mk (((HR0.out.below (hbV0.mono (by omega))).mono (show w.heap.size ≤ V.heap.size by have := hbV.size; omega)))
      have hn3 := HR.out.pos
      have hnk : (k + 1) % l.length < l.length := Nat.mod_lt _ (by omega)
      have hn2 : ((k + 1) % l.length + 1) % l.length < l.length := Nat.mod_lt _ (by omega)
      have HFO := Aside0.mk (folds_at (bs k) (bs ((k + 1) % l.length)) (bs (((k + 1) % l.length + 1) % l.length)) (at_ l k) (nxt l k) (nxt l ((k + 1) % l.length)) V (hRV.out.x k hk) (hRV.out.y k hk) (hRV.out.next k hk) (hRV.out.x _ hnk) (hRV.out.y _ hnk) (hRV.out.next _ hnk) (hRV.out.x _ hn2) (hRV.out.y _ hn2) (hRV.out.lt k hk) (hRV.out.lt _ hnk) (hRV.out.lt _ hn2))
      have hcV := (hbV0.cell (p := ⟨w.heap.size + 1, 0, none⟩) (by dsimp only; omega)).trans hc0
      have hfV := (hbV0.frozen (p := ⟨w.heap.size + 1, 0, none⟩) (by dsimp only; omega)).trans hf0
      have HBT := Aside0.mk hbV0
      cases hfo : foldAt l k
      · have HFO' := Aside0.mk (HFO.out.mono (R' := fun e w' => e = .returned (.bool false) ∧ Below V.heap.size V w') (fun e w' h => ⟨by rw [h.1]; exact congrArg (fun b => Ending.returned (.bool b)) hfo, h.2⟩))
        have HFK := Aside0.mk hfo
        clear hfo HFO hcV hfV
        gi_wp2_with ((first | refine ⟨trivial, rfl, ?_⟩ | refine ⟨rfl, ?_⟩ | skip); gi_at_call 83; refine (CallsIn.inRound r (callsIn_wide.2 HFO'.out)).mono ?_; rintro e V1 ⟨rfl, hb1⟩; have hR1 := Aside0.mk ((hRV.out.below hb1).mono hb1.size); have HB1 := Aside0.mk hb1; have hn1 := hR1.out.next k hk; have hn2' := hR1.out.next _ hnk; clear hb1)
        gi_loopg [6] (l.length - 3) (fun g v6 wr => ∃ t : Nat, t + g = l.length - 3 ∧ v6 = .pointer (some ⟨bs ((k + 2 + t) % l.length), 0, none⟩) ∧ Aside0 (∀ s, s < t → meetAt l k s = false) ∧ Aside0 (Below V1.heap.size V1 wr))
        case atStart => exact ⟨0, by omega, by first | rfl | (rw [mod_next]; rfl), ⟨fun s hs => by omega⟩, ⟨Below.refl _ _⟩⟩
        case round =>
          clear hn1 hn2'
          obtain ⟨t, ht, rfl, HD, HB⟩ := hrel
          have hRr := Aside0.mk (hR1.out.below HB.out)
          have hjl : (k + 2 + t) % l.length < l.length := Nat.mod_lt _ (by omega)
          have hjn := hRr.out.next _ hjl
          cases gk with
          | zero =>
            obtain rfl : t = l.length - 3 := by omega
            rw [mod_next, show k + 2 + (l.length - 3) + 1 = k + 1 + (l.length - 1) - 0 - 0 - 0 + 0 - 0 from by omega] at hjn
            simp only [Nat.sub_zero, Nat.add_zero] at hjn
            rw [mod_round hk (by omega)] at hjn
            have hq := run_neq_same wr ⟨bs k, 0, none⟩
            gi_wp2
            refine ⟨KeepsFrom.of_below (HB1.out.trans (HB.out.mono HB1.out.size)), (HB1.out.trans (HB.out.mono HB1.out.size)).mono hbV.size, fun i hi => ?_, hbV.trans ((HB1.out.trans (HB.out.mono HB1.out.size)).mono hbV.size)⟩
            by_cases e : i = k
            · subst e; exact ⟨HFK.out, HD.out⟩
            · exact hp2 i (by omega)
          | succ g =>
            have hml : ((k + 2 + t) % l.length + 1) % l.length < l.length := Nat.mod_lt _ (by omega)
            have hmk : ((k + 2 + t) % l.length + 1) % l.length ≠ k := by rw [mod_next, show k + 2 + t + 1 = k + 1 + (t + 2) from by omega]; exact mod_ne hk (by omega)
            have hne : bs (((k + 2 + t) % l.length + 1) % l.length) ≠ bs k := fun e => hmk (hRr.out.inj _ _ hml hk e)
            have hq := run_neq_other wr hne (hRr.out.blk _ hml) (hRr.out.blk _ hk)
            have hRm := Aside0.mk (hRr.out.mono HB.out.size)
            have hrx := Aside0.mk (fun w' (h : Below wr.heap.size wr w') => (hRm.out.below h).x k hk)
            have hry := Aside0.mk (fun w' (h : Below wr.heap.size wr w') => (hRm.out.below h).y k hk)
            have hrn := Aside0.mk (fun w' (h : Below wr.heap.size wr w') => (hRm.out.below h).next k hk)
            have hnx := Aside0.mk (fun w' (h : Below wr.heap.size wr w') => (show w'.cell? ⟨bs ((k + 1) % l.length), 0, none⟩ = some (.int .i64 (nxt l k).f0) from (hRm.out.below h).x _ hnk))
            have hny := Aside0.mk (fun w' (h : Below wr.heap.size wr w') => (show w'.cell? ⟨bs ((k + 1) % l.length), 1, none⟩ = some (.int .i64 (nxt l k).f1) from (hRm.out.below h).y _ hnk))
            have hjx := Aside0.mk (fun w' (h : Below wr.heap.size wr w') => (hRm.out.below h).x _ hjl)
            have hjy := Aside0.mk (fun w' (h : Below wr.heap.size wr w') => (hRm.out.below h).y _ hjl)
            have hjm := Aside0.mk (fun w' (h : Below wr.heap.size wr w') => (hRm.out.below h).next _ hjl)
            have hmx := Aside0.mk (fun w' (h : Below wr.heap.size wr w') => (show w'.cell? ⟨bs (((k + 2 + t) % l.length + 1) % l.length), 0, none⟩ = some (.int .i64 (nxt l ((k + 2 + t) % l.length)).f0) from (hRm.out.below h).x _ hml))
            have hmy := Aside0.mk (fun w' (h : Below wr.heap.size wr w') => (show w'.cell? ⟨bs (((k + 2 + t) % l.length + 1) % l.length), 1, none⟩ = some (.int .i64 (nxt l ((k + 2 + t) % l.length)).f1) from (hRm.out.below h).y _ hml))
            have hdj := Aside0.mk (show meetAt l k t = meetPt (at_ l k) (nxt l k) (at_ l ((k + 2 + t) % l.length)) (nxt l ((k + 2 + t) % l.length)) from rfl)
            have hj1 := Aside0.mk (show ((k + 2 + t) % l.length + 1) % l.length = (k + 2 + (t + 1)) % l.length from by rw [mod_next]; rfl)
            generalize (k + 2 + t) % l.length = j at *
            clear hne hmk
            gi_wp2
            clear hq hjn
            obtain ⟨VS, hVS⟩ : ∃ VS : List (Option Tmp × Value), [(some 52, .pointer (some ⟨bs k, 0, none⟩)), (some 53, .pointer (some ⟨bs k, 0, none⟩)), (some 54, .pointer (some ⟨bs k, 0, none⟩)), (some 55, .agg #[.int .i64 (at_ l k).f0, .int .i64 (at_ l k).f1]), (some 56, .pointer (some ⟨bs k, 0, none⟩)), (some 57, .pointer (some ⟨bs k, 0, none⟩)), (some 58, .pointer (some ⟨bs k, 2, none⟩)), (some 59, .pointer (some ⟨bs ((k + 1) % l.length), 0, none⟩)), (some 60, .pointer (some ⟨bs ((k + 1) % l.length), 0, none⟩)), (some 61, .pointer (some ⟨bs ((k + 1) % l.length), 0, none⟩)), (some 62, .agg #[.int .i64 (nxt l k).f0, .int .i64 (nxt l k).f1]), (some 63, .pointer (some ⟨bs j, 0, none⟩)), (some 64, .pointer (some ⟨bs j, 0, none⟩)), (some 65, .pointer (some ⟨bs j, 0, none⟩)), (some 66, .agg #[.int .i64 (at_ l j).f0, .int .i64 (at_ l j).f1]), (some 67, .pointer (some ⟨bs j, 0, none⟩)), (some 68, .pointer (some ⟨bs j, 0, none⟩)), (some 69, .pointer (some ⟨bs j, 2, none⟩)), (some 70, .pointer (some ⟨bs ((j + 1) % l.length), 0, none⟩)), (some 71, .pointer (some ⟨bs ((j + 1) % l.length), 0, none⟩)), (some 72, .pointer (some ⟨bs ((j + 1) % l.length), 0, none⟩)), (some 73, .agg #[.int .i64 (nxt l j).f0, .int .i64 (nxt l j).f1]), (some 74, .bool (meetPt (at_ l k) (nxt l k) (at_ l j) (nxt l j)))] = VS := ⟨_, rfl⟩
            have HN : (VS.filterMap (·.1)).Nodup := by rw [← hVS]; exact (show List.Nodup [(52 : Tmp), (53 : Tmp), (54 : Tmp), (55 : Tmp), (56 : Tmp), (57 : Tmp), (58 : Tmp), (59 : Tmp), (60 : Tmp), (61 : Tmp), (62 : Tmp), (63 : Tmp), (64 : Tmp), (65 : Tmp), (66 : Tmp), (67 : Tmp), (68 : Tmp), (69 : Tmp), (70 : Tmp), (71 : Tmp), (72 : Tmp), (73 : Tmp), (74 : Tmp)] by decide)
            refine act_name fun A0 hA0 => ?_
            have E5 : ∀ L : List Bool, (fill VS L A0).tmps[5]?.getD undef = .pointer (some ⟨bs k, 0, none⟩) := fun L => fill_old _ _ _ (by rw [← hVS]; exact (show (5 : Tmp) ∉ [(52 : Tmp), (53 : Tmp), (54 : Tmp), (55 : Tmp), (56 : Tmp), (57 : Tmp), (58 : Tmp), (59 : Tmp), (60 : Tmp), (61 : Tmp), (62 : Tmp), (63 : Tmp), (64 : Tmp), (65 : Tmp), (66 : Tmp), (67 : Tmp), (68 : Tmp), (69 : Tmp), (70 : Tmp), (71 : Tmp), (72 : Tmp), (73 : Tmp), (74 : Tmp)] by decide)) (by rw [← hA0]; rfl)
            have E6 : ∀ L : List Bool, (fill VS L A0).tmps[6]?.getD undef = .pointer (some ⟨bs j, 0, none⟩) := fun L => fill_old _ _ _ (by rw [← hVS]; exact (show (6 : Tmp) ∉ [(52 : Tmp), (53 : Tmp), (54 : Tmp), (55 : Tmp), (56 : Tmp), (57 : Tmp), (58 : Tmp), (59 : Tmp), (60 : Tmp), (61 : Tmp), (62 : Tmp), (63 : Tmp), (64 : Tmp), (65 : Tmp), (66 : Tmp), (67 : Tmp), (68 : Tmp), (69 : Tmp), (70 : Tmp), (71 : Tmp), (72 : Tmp), (73 : Tmp), (74 : Tmp)] by decide)) (by rw [← hA0]; rfl)
            have hT_ : 74 < A0.tmps.size := by rw [← hA0]; simp
            refine drawn_same (by kernel_rfl) (early_spec (by kernel_rfl)) VS (by rw [← hVS]; rfl) HN (fun w' => Below wr.heap.size wr w') ((Below.refl _ _).drew) ?_ ?_
            · intro i o v L w' ho hv hpre hS K hK
              have hii : i = 0 ∨ i = 1 ∨ i = 2 ∨ i = 3 ∨ i = 4 ∨ i = 5 ∨ i = 6 ∨ i = 7 ∨ i = 8 ∨ i = 9 ∨ i = 10 ∨ i = 11 ∨ i = 12 ∨ i = 13 ∨ i = 14 ∨ i = 15 ∨ i = 16 ∨ i = 17 ∨ i = 18 ∨ i = 19 ∨ i = 20 ∨ i = 21 ∨ i = 22 := by have hq := (Array.getElem?_eq_some_iff.1 ho).1; simp at hq; omega
              rcases hii with rfl | rfl | rfl | rfl | rfl | rfl | rfl | rfl | rfl | rfl | rfl | rfl | rfl | rfl | rfl | rfl | rfl | rfl | rfl | rfl | rfl | rfl | rfl
              · obtain rfl := Option.some.inj ho
                obtain rfl := vs_at hVS hv rfl
                have e5 := E5 L
                refine st_val HF rfl (by simp) rfl (w' := w') ?_ (hK w' hS)
                generalize fill VS L A0 = A at e5 ⊢
                simp [execOp, go_sem, i64_w, e5]
              · obtain rfl := Option.some.inj ho
                obtain rfl := vs_at hVS hv rfl
                have e52 := fill_get HN hVS hT_ (t := 52) (j := 0) rfl rfl (hpre ⟨0, .data⟩ (by simp) rfl)
                refine st_val HF rfl (by simp) rfl (w' := w') ?_ (hK w' hS)
                generalize fill VS L A0 = A at e52 ⊢
                simp [execOp, go_sem, i64_w, e52]
              · obtain rfl := Option.some.inj ho
                obtain rfl := vs_at hVS hv rfl
                have e53 := fill_get HN hVS hT_ (t := 53) (j := 1) rfl rfl (hpre ⟨1, .data⟩ (by simp) rfl)
                refine st_val HF rfl (by simp) rfl (w' := w') ?_ (hK w' hS)
                generalize fill VS L A0 = A at e53 ⊢
                simp [execOp, go_sem, i64_w, e53]
              · obtain rfl := Option.some.inj ho
                obtain rfl := vs_at hVS hv rfl
                have e54 := fill_get HN hVS hT_ (t := 54) (j := 2) rfl rfl (hpre ⟨2, .data⟩ (by simp) rfl)
                have c1 := hrx.out w' hS
                have c2 := hry.out w' hS
                refine st_val HF rfl (by simp) rfl (w' := w') ?_ (hK w' hS)
                generalize fill VS L A0 = A at e54 ⊢
                simp [execOp, go_sem, i64_w, e54, c1, c2]
              · obtain rfl := Option.some.inj ho
                obtain rfl := vs_at hVS hv rfl
                have e5 := E5 L
                refine st_val HF rfl (by simp) rfl (w' := w') ?_ (hK w' hS)
                generalize fill VS L A0 = A at e5 ⊢
                simp [execOp, go_sem, i64_w, e5]
              · obtain rfl := Option.some.inj ho
                obtain rfl := vs_at hVS hv rfl
                have e56 := fill_get HN hVS hT_ (t := 56) (j := 4) rfl rfl (hpre ⟨4, .data⟩ (by simp) rfl)
                refine st_val HF rfl (by simp) rfl (w' := w') ?_ (hK w' hS)
                generalize fill VS L A0 = A at e56 ⊢
                simp [execOp, go_sem, i64_w, e56]
              · obtain rfl := Option.some.inj ho
                obtain rfl := vs_at hVS hv rfl
                have e57 := fill_get HN hVS hT_ (t := 57) (j := 5) rfl rfl (hpre ⟨5, .data⟩ (by simp) rfl)
                refine st_val HF rfl (by simp) rfl (w' := w') ?_ (hK w' hS)
                generalize fill VS L A0 = A at e57 ⊢
                simp [execOp, go_sem, i64_w, e57]
              · obtain rfl := Option.some.inj ho
                obtain rfl := vs_at hVS hv rfl
                have e58 := fill_get HN hVS hT_ (t := 58) (j := 6) rfl rfl (hpre ⟨6, .data⟩ (by simp) rfl)
                have c1 := hrn.out w' hS
                refine st_val HF rfl (by simp) rfl (w' := w') ?_ (hK w' hS)
                generalize fill VS L A0 = A at e58 ⊢
                simp [execOp, go_sem, i64_w, e58, c1]
              · obtain rfl := Option.some.inj ho
                obtain rfl := vs_at hVS hv rfl
                have e59 := fill_get HN hVS hT_ (t := 59) (j := 7) rfl rfl (hpre ⟨7, .data⟩ (by simp) rfl)
                refine st_val HF rfl (by simp) rfl (w' := w') ?_ (hK w' hS)
                generalize fill VS L A0 = A at e59 ⊢
                simp [execOp, go_sem, i64_w, e59]
              · obtain rfl := Option.some.inj ho
                obtain rfl := vs_at hVS hv rfl
                have e60 := fill_get HN hVS hT_ (t := 60) (j := 8) rfl rfl (hpre ⟨8, .data⟩ (by simp) rfl)
                refine st_val HF rfl (by simp) rfl (w' := w') ?_ (hK w' hS)
                generalize fill VS L A0 = A at e60 ⊢
                simp [execOp, go_sem, i64_w, e60]
              · obtain rfl := Option.some.inj ho
                obtain rfl := vs_at hVS hv rfl
                have e61 := fill_get HN hVS hT_ (t := 61) (j := 9) rfl rfl (hpre ⟨9, .data⟩ (by simp) rfl)
                have c1 := hnx.out w' hS
                have c2 := hny.out w' hS
                refine st_val HF rfl (by simp) rfl (w' := w') ?_ (hK w' hS)
                generalize fill VS L A0 = A at e61 ⊢
                simp [execOp, go_sem, i64_w, e61, c1, c2]
              · obtain rfl := Option.some.inj ho
                obtain rfl := vs_at hVS hv rfl
                have e6 := E6 L
                refine st_val HF rfl (by simp) rfl (w' := w') ?_ (hK w' hS)
                generalize fill VS L A0 = A at e6 ⊢
                simp [execOp, go_sem, i64_w, e6]
              · obtain rfl := Option.some.inj ho
                obtain rfl := vs_at hVS hv rfl
                have e63 := fill_get HN hVS hT_ (t := 63) (j := 11) rfl rfl (hpre ⟨11, .data⟩ (by simp) rfl)
                refine st_val HF rfl (by simp) rfl (w' := w') ?_ (hK w' hS)
                generalize fill VS L A0 = A at e63 ⊢
                simp [execOp, go_sem, i64_w, e63]
              · obtain rfl := Option.some.inj ho
                obtain rfl := vs_at hVS hv rfl
                have e64 := fill_get HN hVS hT_ (t := 64) (j := 12) rfl rfl (hpre ⟨12, .data⟩ (by simp) rfl)
                refine st_val HF rfl (by simp) rfl (w' := w') ?_ (hK w' hS)
                generalize fill VS L A0 = A at e64 ⊢
                simp [execOp, go_sem, i64_w, e64]
              · obtain rfl := Option.some.inj ho
                obtain rfl := vs_at hVS hv rfl
                have e65 := fill_get HN hVS hT_ (t := 65) (j := 13) rfl rfl (hpre ⟨13, .data⟩ (by simp) rfl)
                have c1 := hjx.out w' hS
                have c2 := hjy.out w' hS
                refine st_val HF rfl (by simp) rfl (w' := w') ?_ (hK w' hS)
                generalize fill VS L A0 = A at e65 ⊢
                simp [execOp, go_sem, i64_w, e65, c1, c2]
              · obtain rfl := Option.some.inj ho
                obtain rfl := vs_at hVS hv rfl
                have e6 := E6 L
                refine st_val HF rfl (by simp) rfl (w' := w') ?_ (hK w' hS)
                generalize fill VS L A0 = A at e6 ⊢
                simp [execOp, go_sem, i64_w, e6]
              · obtain rfl := Option.some.inj ho
                obtain rfl := vs_at hVS hv rfl
                have e67 := fill_get HN hVS hT_ (t := 67) (j := 15) rfl rfl (hpre ⟨15, .data⟩ (by simp) rfl)
                refine st_val HF rfl (by simp) rfl (w' := w') ?_ (hK w' hS)
                generalize fill VS L A0 = A at e67 ⊢
                simp [execOp, go_sem, i64_w, e67]
              · obtain rfl := Option.some.inj ho
                obtain rfl := vs_at hVS hv rfl
                have e68 := fill_get HN hVS hT_ (t := 68) (j := 16) rfl rfl (hpre ⟨16, .data⟩ (by simp) rfl)
                refine st_val HF rfl (by simp) rfl (w' := w') ?_ (hK w' hS)
                generalize fill VS L A0 = A at e68 ⊢
                simp [execOp, go_sem, i64_w, e68]
              · obtain rfl := Option.some.inj ho
                obtain rfl := vs_at hVS hv rfl
                have e69 := fill_get HN hVS hT_ (t := 69) (j := 17) rfl rfl (hpre ⟨17, .data⟩ (by simp) rfl)
                have c1 := hjm.out w' hS
                refine st_val HF rfl (by simp) rfl (w' := w') ?_ (hK w' hS)
                generalize fill VS L A0 = A at e69 ⊢
                simp [execOp, go_sem, i64_w, e69, c1]
              · obtain rfl := Option.some.inj ho
                obtain rfl := vs_at hVS hv rfl
                have e70 := fill_get HN hVS hT_ (t := 70) (j := 18) rfl rfl (hpre ⟨18, .data⟩ (by simp) rfl)
                refine st_val HF rfl (by simp) rfl (w' := w') ?_ (hK w' hS)
                generalize fill VS L A0 = A at e70 ⊢
                simp [execOp, go_sem, i64_w, e70]
              · obtain rfl := Option.some.inj ho
                obtain rfl := vs_at hVS hv rfl
                have e71 := fill_get HN hVS hT_ (t := 71) (j := 19) rfl rfl (hpre ⟨19, .data⟩ (by simp) rfl)
                refine st_val HF rfl (by simp) rfl (w' := w') ?_ (hK w' hS)
                generalize fill VS L A0 = A at e71 ⊢
                simp [execOp, go_sem, i64_w, e71]
              · obtain rfl := Option.some.inj ho
                obtain rfl := vs_at hVS hv rfl
                have e72 := fill_get HN hVS hT_ (t := 72) (j := 20) rfl rfl (hpre ⟨20, .data⟩ (by simp) rfl)
                have c1 := hmx.out w' hS
                have c2 := hmy.out w' hS
                refine st_val HF rfl (by simp) rfl (w' := w') ?_ (hK w' hS)
                generalize fill VS L A0 = A at e72 ⊢
                simp [execOp, go_sem, i64_w, e72, c1, c2]
              · obtain rfl := Option.some.inj ho
                obtain rfl := vs_at hVS hv rfl
                have e55 := fill_get HN hVS hT_ (t := 55) (j := 3) rfl rfl (hpre ⟨3, .data⟩ (by simp) rfl)
                have e62 := fill_get HN hVS hT_ (t := 62) (j := 10) rfl rfl (hpre ⟨10, .data⟩ (by simp) rfl)
                have e66 := fill_get HN hVS hT_ (t := 66) (j := 14) rfl rfl (hpre ⟨14, .data⟩ (by simp) rfl)
                have e73 := fill_get HN hVS hT_ (t := 73) (j := 21) rfl rfl (hpre ⟨21, .data⟩ (by simp) rfl)
                refine st_call HF rfl (by simp) rfl (w := w') (f := 84) (args := #[.agg #[.int .i64 (at_ l k).f0, .int .i64 (at_ l k).f1], .agg #[.int .i64 (nxt l k).f0, .int .i64 (nxt l k).f1], .agg #[.int .i64 (at_ l j).f0, .int .i64 (at_ l j).f1], .agg #[.int .i64 (nxt l j).f0, .int .i64 (nxt l j).f1]]) (v := .bool (meetPt (at_ l k) (nxt l k) (at_ l j) (nxt l j))) ?_ ?_
                · generalize fill VS L A0 = A at e55 e62 e66 e73 ⊢
                  simp [execOp, resolve, go_sem, e55, e62, e66, e73]
                · refine (impl_sidesMeet.calls 2 _ _ _ _ _ _ _ _ _ w' (meetPt_f (at_ l k) (nxt l k) (at_ l j) (nxt l j))).mono ?_; rintro e w2 ⟨rfl, hb2⟩; exact ⟨rfl, hK w2 (hS.trans (hb2.mono hS.size))⟩
            · intro w' hS'
              rw [← hVS, ← hA0]
              simp only [List.size_toArray, List.length_cons, List.length_nil, Nat.reduceAdd, List.replicate, fill, if_true, Act.put, List.setIfInBounds_toArray, List.set_cons_succ, List.set_cons_zero]
              clear HN E5 E6 hVS hA0 hT_
              have HS := Aside0.mk (HB.out.trans (hS'.mono HB.out.size))
              have hjn := hjm.out w' hS'
              have HV := Aside0.mk (HB1.out.trans (HS.out.mono HB1.out.size))
              have hcW := ((HBT.out.trans (HV.out.mono HBT.out.size)).cell (p := ⟨w.heap.size + 1, 0, none⟩) (by dsimp only; omega)).trans hc0
              have hfW := ((HBT.out.trans (HV.out.mono HBT.out.size)).frozen (p := ⟨w.heap.size + 1, 0, none⟩) (by dsimp only; omega)).trans hf0
              clear hS'
              cases hd : meetPt (at_ l k) (nxt l k) (at_ l j) (nxt l j)
              · have hdt := Aside0.mk (hdj.out.trans hd)
                clear hd
                gi_wp2
                gi_roundg g
                case measure => omega
                case rel => exact ⟨t + 1, by omega, by rw [hj1.out], ⟨fun s hs => by
                  by_cases e : s = t
                  · subst e; exact hdt.out
                  · exact HD.out s (by omega)⟩, HS⟩
              · have hdt := Aside0.mk (simpleB_meet hk (show t < l.length - 3 by omega) (hdj.out.trans hd))
                clear hd
                gi_wp2
                refine ⟨(KeepsFrom.of_below HV.out).trans ((KeepsOthers.setCell _ _ _).from _), rfl, ⟨World.cell?_setCell_same _ _ _ hcW, (hb0.trans ((HBT.out.trans (HV.out.mono HBT.out.size)).mono (by omega))).setCell (p := ⟨w.heap.size + 1, 0, none⟩) (by dsimp only; omega) _, ?_⟩, hdt.out⟩
                exact (KeepsOthers.setCell _ _ _).same D _ ((HV.out.block D (by have := hbV.size; omega)).trans ((hbV.block D hlD).trans hK)) rfl
      · have HFO' := Aside0.mk (HFO.out.mono (R' := fun e w' => e = .returned (.bool true) ∧ Below V.heap.size V w') (fun e w' h => ⟨by rw [h.1]; exact congrArg (fun b => Ending.returned (.bool b)) hfo, h.2⟩))
        have hSB := Aside0.mk (simpleB_fold hk hfo)
        clear hfo HFO hcV hfV
        gi_wp2_with ((first | refine ⟨trivial, rfl, ?_⟩ | refine ⟨rfl, ?_⟩ | skip); gi_at_call 83; refine (CallsIn.inRound r (callsIn_wide.2 HFO'.out)).mono ?_; rintro e V1 ⟨rfl, hb1⟩; have HV := Aside0.mk hb1; have hcW := ((HBT.out.trans (hb1.mono HBT.out.size)).cell (p := ⟨w.heap.size + 1, 0, none⟩) (by dsimp only; omega)).trans hc0; have hfW := ((HBT.out.trans (hb1.mono HBT.out.size)).frozen (p := ⟨w.heap.size + 1, 0, none⟩) (by dsimp only; omega)).trans hf0; clear hb1)
        refine ⟨(KeepsFrom.of_below HV.out).trans ((KeepsOthers.setCell _ _ _).from _), rfl, ⟨World.cell?_setCell_same _ _ _ hcW, (hb0.trans ((HBT.out.trans (HV.out.mono HBT.out.size)).mono (by omega))).setCell (p := ⟨w.heap.size + 1, 0, none⟩) (by dsimp only; omega) _, ?_⟩, hSB.out⟩
        exact (KeepsOthers.setCell _ _ _).same D _ ((HV.out.block D (by have := hbV.size; omega)).trans ((hbV.block D hlD).trans hK)) rfl

end Go.Proofs.Ytgdhgncdpmalcaa.Ring
namespace Go.Proofs.Ytgdhgncdpmalcaa.Ring
open Go.RowKit Go.Shelf Go.Proofs.Ytgdhgncdpmalcaa.Q Go.Proofs.Ytgdhgncdpmalcaa.Drawn Go.Proofs.YtgdhgncdpmalcaaW.PrintWords Go.Proofs.YtgdhgncdpmalcaaW.PrintLast Go.Proofs.YtgdhgncdpmalcaaW.PrintMore
set_option linter.unusedVariables false
set_option linter.unusedSimpArgs false
attribute [local go_sem] Oper.semAt_some
def crossP (p q : Pt) : Int := wrap64 (wrap64 (p.f0 * q.f1) - wrap64 (q.f0 * p.f1))

def areaS (l : List Pt) : Nat → Int
  | 0 => 0
  | j + 1 => wrap64 (areaS l j + crossP (at_ l j) (nxt l j))
set_option maxRecDepth 100000 in
set_option maxHeartbeats 4000000 in
theorem area_calls (top : Nat) (bs : Nat → Nat) (l : List Pt) (w : World) (hR : Ring w top bs l) (htop : top ≤ w.heap.size) :
    Calls Try.prog 44 #[.agg #[.pointer (some ⟨bs 0, 0, none⟩), .int .i64 l.length]] w fun e w' => e = .returned (.int .i64 (areaS l l.length)) ∧ Below w.heap.size w w' := by
  refine (callsIn_wide (n := 0)).1 (callsIn_of_wp_marks Try.func44 rfl trivial ?_ rfl)
  simp only [Try.ntmps44, List.size_toArray, List.length_cons, List.length_nil, Nat.reduceAdd, Nat.reduceSub, Array.replicate_succ, Array.replicate_zero, List.push_toArray, List.append_toArray, List.nil_append, List.cons_append]
  have HR := Aside0.mk hR
  clear hR
  gi_wp2
  have hs : ((w.alloc (.cells #[.pointer (some ⟨bs 0, 0, none⟩), .int .i64 l.length] 54)).alloc (.cells #[.int .i64 0] 3)).heap.size = w.heap.size + 2 := by simp
  obtain ⟨W0, hW0⟩ : ∃ W0, (w.alloc (.cells #[.pointer (some ⟨bs 0, 0, none⟩), .int .i64 l.length] 54)).alloc (.cells #[.int .i64 0] 3) = W0 := ⟨_, rfl⟩
  have hc0 : W0.cell? ⟨w.heap.size + 1, 0, none⟩ = some (.int .i64 0) := by rw [← hW0]; simp [go_sem]
  have hf0 : W0.frozen? ⟨w.heap.size + 1, 0, none⟩ = false := by rw [← hW0]; simp [go_sem]
  have hb0 : Below w.heap.size w W0 := by rw [← hW0]; exact ((Below.refl _ w).alloc (Nat.le_refl _) _).alloc (by simp) _
  rw [hW0] at hs ⊢
  clear hW0
  refine range_ring w.heap.size bs l ((HR.out.mono htop).below hb0) (by omega) rfl
    (fun j W => (W.cell? ⟨w.heap.size + 1, 0, none⟩ = some (.int .i64 (areaS l j)) ∧ W.frozen? ⟨w.heap.size + 1, 0, none⟩ = false) ∧ Below w.heap.size w W)
    (fun _ _ => False)
    (OwnFrom.and (Own.from (fun s A B row hs hg hr => ⟨cell_kept hs.1 hg hr, (frozen_kept hs.1 hg hr).trans hs.2⟩) _) (ownFrom_below (Nat.le_refl _) (by omega)))
    (fun _ _ _ _ h _ _ => h.elim) ⟨⟨hc0, hf0⟩, hb0⟩ ?a1 ?assign ?body ?done ?stop
  case assign =>
    intro r k W K hK
    gi_wp2
    exact hK
  case done =>
    rintro D W hD ⟨⟨hc, hf⟩, hb⟩ hK
    gi_wp2
    refine ⟨by simp, .inl ⟨_, _, rfl, run_takeDeferred hK, ?_⟩⟩
    exact ⟨_, results_tmp rfl _ _ _, rfl, hb.trans (belowK_b (w := W0) (by omega) _ _ _ _ hD hK rfl rfl)⟩
  case stop =>
    rintro D c W hD h
    exact h.elim
  case body =>
    rintro r k W hk ⟨⟨hc, hf⟩, hb⟩ hbt
    have hRW := (HR.out.mono htop).below hb
    have hkp := hRW.pos
    have hrx := Aside0.mk (fun w' (h : Below w.heap.size W w') => (hRW.below h).x k hk)
    have hry := Aside0.mk (fun w' (h : Below w.heap.size W w') => (hRW.below h).y k hk)
    have hrn := Aside0.mk (fun w' (h : Below w.heap.size W w') => (hRW.below h).next k hk)
    have hnk : (k + 1) % l.length < l.length := Nat.mod_lt _ (by omega)
    have hnx := Aside0.mk (fun w' (h : Below w.heap.size W w') => (show w'.cell? ⟨bs ((k + 1) % l.length), 0, none⟩ = some (.int .i64 (nxt l k).f0) from (hRW.below h).x _ hnk))
    have hny := Aside0.mk (fun w' (h : Below w.heap.size W w') => (show w'.cell? ⟨bs ((k + 1) % l.length), 1, none⟩ = some (.int .i64 (nxt l k).f1) from (hRW.below h).y _ hnk))
    clear hRW
    gi_wp2
    have HF := wide_round Try.prog r
    obtain ⟨VS, hVS⟩ : ∃ VS : List (Option Tmp × Value), [(some 8, .int .i64 (areaS l k)), (some 9, .pointer (some ⟨bs k, 0, none⟩)), (some 10, .pointer (some ⟨bs k, 0, none⟩)), (some 11, .pointer (some ⟨bs k, 0, none⟩)), (some 12, .agg #[.int .i64 (at_ l k).f0, .int .i64 (at_ l k).f1]), (some 13, .agg #[.int .i64 (at_ l k).f0, .int .i64 (at_ l k).f1]), (some 14, .pointer (some ⟨bs k, 0, none⟩)), (some 15, .pointer (some ⟨bs k, 0, none⟩)), (some 16, .pointer (some ⟨bs k, 2, none⟩)), (some 17, .pointer (some ⟨bs ((k + 1) % l.length), 0, none⟩)), (some 18, .pointer (some ⟨bs ((k + 1) % l.length), 0, none⟩)), (some 19, .pointer (some ⟨bs ((k + 1) % l.length), 0, none⟩)), (some 20, .agg #[.int .i64 (nxt l k).f0, .int .i64 (nxt l k).f1]), (some 21, .agg #[.int .i64 (nxt l k).f0, .int .i64 (nxt l k).f1]), (some 22, .int .i64 (crossP (at_ l k) (nxt l k))), (some 23, .int .i64 (wrap64 (areaS l k + crossP (at_ l k) (nxt l k)))), (none, undef)] = VS := ⟨_, rfl⟩
    have HN : (VS.filterMap (·.1)).Nodup := by rw [← hVS]; exact (show List.Nodup [(8 : Tmp), (9 : Tmp), (10 : Tmp), (11 : Tmp), (12 : Tmp), (13 : Tmp), (14 : Tmp), (15 : Tmp), (16 : Tmp), (17 : Tmp), (18 : Tmp), (19 : Tmp), (20 : Tmp), (21 : Tmp), (22 : Tmp), (23 : Tmp)] by decide)
    refine act_name fun A0 hA0 => ?_
    have E3 : ∀ L : List Bool, (fill VS L A0).tmps[3]?.getD undef = .pointer (some ⟨w.heap.size + 1, 0, none⟩) := fun L => fill_old _ _ _ (by rw [← hVS]; exact (show (3 : Tmp) ∉ [(8 : Tmp), (9 : Tmp), (10 : Tmp), (11 : Tmp), (12 : Tmp), (13 : Tmp), (14 : Tmp), (15 : Tmp), (16 : Tmp), (17 : Tmp), (18 : Tmp), (19 : Tmp), (20 : Tmp), (21 : Tmp), (22 : Tmp), (23 : Tmp)] by decide)) (by rw [← hA0]; rfl)
    have E4 : ∀ L : List Bool, (fill VS L A0).tmps[4]?.getD undef = .pointer (some ⟨bs k, 0, none⟩) := fun L => fill_old _ _ _ (by rw [← hVS]; exact (show (4 : Tmp) ∉ [(8 : Tmp), (9 : Tmp), (10 : Tmp), (11 : Tmp), (12 : Tmp), (13 : Tmp), (14 : Tmp), (15 : Tmp), (16 : Tmp), (17 : Tmp), (18 : Tmp), (19 : Tmp), (20 : Tmp), (21 : Tmp), (22 : Tmp), (23 : Tmp)] by decide)) (by rw [← hA0]; rfl)
    have hT_ : 23 < A0.tmps.size := by rw [← hA0]; simp
    refine drawn_last (by kernel_rfl) (early_spec (by kernel_rfl)) 16 rfl (waits_spec (by kernel_rfl)) VS (by rw [← hVS]; rfl) HN (fun w' => (w'.cell? ⟨w.heap.size + 1, 0, none⟩ = some (.int .i64 (areaS l k)) ∧ w'.frozen? ⟨w.heap.size + 1, 0, none⟩ = false) ∧ Below w.heap.size W w' ∧ KeepsFrom W0.heap.size W w' ∧ w.heap.size + 2 ≤ w'.heap.size) (fun w' => (w'.cell? ⟨w.heap.size + 1, 0, none⟩ = some (.int .i64 (areaS l (k + 1))) ∧ w'.frozen? ⟨w.heap.size + 1, 0, none⟩ = false) ∧ Below w.heap.size W w' ∧ KeepsFrom W0.heap.size W w' ∧ w.heap.size + 2 ≤ w'.heap.size) (⟨⟨hc, hf⟩, (Below.refl _ _).drew, (KeepsOthers.drew _).from _, by have := hbt.size; simp; omega⟩) ?_ ?_ ?_
    · intro i o v L w' hi ho hv hpre hS K hK
      have hii : i = 0 ∨ i = 1 ∨ i = 2 ∨ i = 3 ∨ i = 4 ∨ i = 5 ∨ i = 6 ∨ i = 7 ∨ i = 8 ∨ i = 9 ∨ i = 10 ∨ i = 11 ∨ i = 12 ∨ i = 13 ∨ i = 14 ∨ i = 15 := by omega
      rcases hii with rfl | rfl | rfl | rfl | rfl | rfl | rfl | rfl | rfl | rfl | rfl | rfl | rfl | rfl | rfl | rfl
      · obtain rfl := Option.some.inj ho
        obtain rfl := vs_at hVS hv rfl
        have e3 := E3 L
        have c1 := hS.1.1
        refine st_val HF rfl (by simp) rfl (w' := w') ?_ (hK w' hS)
        generalize fill VS L A0 = A at e3 ⊢
        simp [execOp, go_sem, i64_w, e3, c1]
      · obtain rfl := Option.some.inj ho
        obtain rfl := vs_at hVS hv rfl
        have e4 := E4 L
        refine st_val HF rfl (by simp) rfl (w' := w') ?_ (hK w' hS)
        generalize fill VS L A0 = A at e4 ⊢
        simp [execOp, go_sem, i64_w, e4]
      · obtain rfl := Option.some.inj ho
        obtain rfl := vs_at hVS hv rfl
        have e9 := fill_get HN hVS hT_ (t := 9) (j := 1) rfl rfl (hpre ⟨1, .data⟩ (by simp) rfl)
        refine st_val HF rfl (by simp) rfl (w' := w') ?_ (hK w' hS)
        generalize fill VS L A0 = A at e9 ⊢
        simp [execOp, go_sem, i64_w, e9]
      · obtain rfl := Option.some.inj ho
        obtain rfl := vs_at hVS hv rfl
        have e10 := fill_get HN hVS hT_ (t := 10) (j := 2) rfl rfl (hpre ⟨2, .data⟩ (by simp) rfl)
        refine st_val HF rfl (by simp) rfl (w' := w') ?_ (hK w' hS)
        generalize fill VS L A0 = A at e10 ⊢
        simp [execOp, go_sem, i64_w, e10]
      · obtain rfl := Option.some.inj ho
        obtain rfl := vs_at hVS hv rfl
        have e11 := fill_get HN hVS hT_ (t := 11) (j := 3) rfl rfl (hpre ⟨3, .data⟩ (by simp) rfl)
        have c1 := hrx.out w' hS.2.1
        have c2 := hry.out w' hS.2.1
        refine st_val HF rfl (by simp) rfl (w' := w') ?_ (hK w' hS)
        generalize fill VS L A0 = A at e11 ⊢
        simp [execOp, go_sem, i64_w, e11, c1, c2]
      · obtain rfl := Option.some.inj ho
        obtain rfl := vs_at hVS hv rfl
        have e12 := fill_get HN hVS hT_ (t := 12) (j := 4) rfl rfl (hpre ⟨4, .data⟩ (by simp) rfl)
        refine st_call HF rfl (by simp) rfl (w := w') (f := 53) (args := #[.agg #[.int .i64 (at_ l k).f0, .int .i64 (at_ l k).f1]]) (v := .agg #[.int .i64 (at_ l k).f0, .int .i64 (at_ l k).f1]) ?_ ?_
        · generalize fill VS L A0 = A at e12 ⊢
          simp [execOp, resolve, go_sem, e12]
        · refine (impl_pairOf.calls _ _ (at_ l k).f0 (at_ l k).f1 w' rfl).mono ?_; rintro e w2 ⟨rfl, hb2⟩; exact ⟨rfl, hK w2 ⟨⟨(hb2.cell (p := ⟨w.heap.size + 1, 0, none⟩) qq66).trans hS.1.1, (hb2.frozen (p := ⟨w.heap.size + 1, 0, none⟩) qq66).trans hS.1.2⟩, hS.2.1.trans (hb2.mono (by have := hS.2.2.2; omega)), hS.2.2.1.trans (KeepsFrom.of_below hb2), Nat.le_trans hS.2.2.2 hb2.size⟩⟩
      · obtain rfl := Option.some.inj ho
        obtain rfl := vs_at hVS hv rfl
        have e4 := E4 L
        refine st_val HF rfl (by simp) rfl (w' := w') ?_ (hK w' hS)
        generalize fill VS L A0 = A at e4 ⊢
        simp [execOp, go_sem, i64_w, e4]
      · obtain rfl := Option.some.inj ho
        obtain rfl := vs_at hVS hv rfl
        have e14 := fill_get HN hVS hT_ (t := 14) (j := 6) rfl rfl (hpre ⟨6, .data⟩ (by simp) rfl)
        refine st_val HF rfl (by simp) rfl (w' := w') ?_ (hK w' hS)
        generalize fill VS L A0 = A at e14 ⊢
        simp [execOp, go_sem, i64_w, e14]
      · obtain rfl := Option.some.inj ho
        obtain rfl := vs_at hVS hv rfl
        have e15 := fill_get HN hVS hT_ (t := 15) (j := 7) rfl rfl (hpre ⟨7, .data⟩ (by simp) rfl)
        refine st_val HF rfl (by simp) rfl (w' := w') ?_ (hK w' hS)
        generalize fill VS L A0 = A at e15 ⊢
        simp [execOp, go_sem, i64_w, e15]
      · obtain rfl := Option.some.inj ho
        obtain rfl := vs_at hVS hv rfl
        have e16 := fill_get HN hVS hT_ (t := 16) (j := 8) rfl rfl (hpre ⟨8, .data⟩ (by simp) rfl)
        have c1 := hrn.out w' hS.2.1
        refine st_val HF rfl (by simp) rfl (w' := w') ?_ (hK w' hS)
        generalize fill VS L A0 = A at e16 ⊢
        simp [execOp, go_sem, i64_w, e16, c1]
      · obtain rfl := Option.some.inj ho
        obtain rfl := vs_at hVS hv rfl
        have e17 := fill_get HN hVS hT_ (t := 17) (j := 9) rfl rfl (hpre ⟨9, .data⟩ (by simp) rfl)
        refine st_val HF rfl (by simp) rfl (w' := w') ?_ (hK w' hS)
        generalize fill VS L A0 = A at e17 ⊢
        simp [execOp, go_sem, i64_w, e17]
      · obtain rfl := Option.some.inj ho
        obtain rfl := vs_at hVS hv rfl
        have e18 := fill_get HN hVS hT_ (t := 18) (j := 10) rfl rfl (hpre ⟨10, .data⟩ (by simp) rfl)
        refine st_val HF rfl (by simp) rfl (w' := w') ?_ (hK w' hS)
        generalize fill VS L A0 = A at e18 ⊢
        simp [execOp, go_sem, i64_w, e18]
      · obtain rfl := Option.some.inj ho
        obtain rfl := vs_at hVS hv rfl
        have e19 := fill_get HN hVS hT_ (t := 19) (j := 11) rfl rfl (hpre ⟨11, .data⟩ (by simp) rfl)
        have c1 := hnx.out w' hS.2.1
        have c2 := hny.out w' hS.2.1
        refine st_val HF rfl (by simp) rfl (w' := w') ?_ (hK w' hS)
        generalize fill VS L A0 = A at e19 ⊢
        simp [execOp, go_sem, i64_w, e19, c1, c2]
      · obtain rfl := Option.some.inj ho
        obtain rfl := vs_at hVS hv rfl
        have e20 := fill_get HN hVS hT_ (t := 20) (j := 12) rfl rfl (hpre ⟨12, .data⟩ (by simp) rfl)
        refine st_call HF rfl (by simp) rfl (w := w') (f := 53) (args := #[.agg #[.int .i64 (nxt l k).f0, .int .i64 (nxt l k).f1]]) (v := .agg #[.int .i64 (nxt l k).f0, .int .i64 (nxt l k).f1]) ?_ ?_
        · generalize fill VS L A0 = A at e20 ⊢
          simp [execOp, resolve, go_sem, e20]
        · refine (impl_pairOf.calls _ _ (nxt l k).f0 (nxt l k).f1 w' rfl).mono ?_; rintro e w2 ⟨rfl, hb2⟩; exact ⟨rfl, hK w2 ⟨⟨(hb2.cell (p := ⟨w.heap.size + 1, 0, none⟩) qq66).trans hS.1.1, (hb2.frozen (p := ⟨w.heap.size + 1, 0, none⟩) qq66).trans hS.1.2⟩, hS.2.1.trans (hb2.mono (by have := hS.2.2.2; omega)), hS.2.2.1.trans (KeepsFrom.of_below hb2), Nat.le_trans hS.2.2.2 hb2.size⟩⟩
      · obtain rfl := Option.some.inj ho
        obtain rfl := vs_at hVS hv rfl
        have e13 := fill_get HN hVS hT_ (t := 13) (j := 5) rfl rfl (hpre ⟨5, .data⟩ (by simp) rfl)
        have e21 := fill_get HN hVS hT_ (t := 21) (j := 13) rfl rfl (hpre ⟨13, .data⟩ (by simp) rfl)
        refine st_call HF rfl (by simp) rfl (w := w') (f := 74) (args := #[.agg #[.int .i64 (at_ l k).f0, .int .i64 (at_ l k).f1], .agg #[.int .i64 (nxt l k).f0, .int .i64 (nxt l k).f1]]) (v := .int .i64 (crossP (at_ l k) (nxt l k))) ?_ ?_
        · generalize fill VS L A0 = A at e13 e21 ⊢
          simp [execOp, resolve, go_sem, e13, e21]
        · refine (impl_pair_cross.calls _ _ _ _ (crossP (at_ l k) (nxt l k)) w' rfl).mono ?_; rintro e w2 ⟨rfl, hb2⟩; exact ⟨rfl, hK w2 ⟨⟨(hb2.cell (p := ⟨w.heap.size + 1, 0, none⟩) qq66).trans hS.1.1, (hb2.frozen (p := ⟨w.heap.size + 1, 0, none⟩) qq66).trans hS.1.2⟩, hS.2.1.trans (hb2.mono (by have := hS.2.2.2; omega)), hS.2.2.1.trans (KeepsFrom.of_below hb2), Nat.le_trans hS.2.2.2 hb2.size⟩⟩
      · obtain rfl := Option.some.inj ho
        obtain rfl := vs_at hVS hv rfl
        have e8 := fill_get HN hVS hT_ (t := 8) (j := 0) rfl rfl (hpre ⟨0, .data⟩ (by simp) rfl)
        have e22 := fill_get HN hVS hT_ (t := 22) (j := 14) rfl rfl (hpre ⟨14, .data⟩ (by simp) rfl)
        refine st_val HF rfl (by simp) rfl (w' := w') ?_ (hK w' hS)
        generalize fill VS L A0 = A at e8 e22 ⊢
        simp [execOp, go_sem, i64_w, e8, e22]
    · intro o v L w' ho hv hall hS K hK
      obtain rfl := Option.some.inj ho
      obtain rfl := vs_at hVS hv rfl
      have e3 := E3 L
      have e23 := fill_get HN hVS hT_ (t := 23) (j := 15) rfl rfl (hall 15 (by decide))
      have c1 := hS.1.1
      have c2 := hS.1.2
      refine st_skip HF rfl (by simp) rfl (w' := w'.setCell ⟨w.heap.size + 1, 0, none⟩ (.int .i64 (areaS l (k + 1)))) ?_ (hK _ ⟨⟨World.cell?_setCell_same _ _ _ c1, by rw [World.frozen?_setCell]; exact c2⟩, hS.2.1.setCell (p := ⟨w.heap.size + 1, 0, none⟩) (by dsimp only; omega) _, hS.2.2.1.trans ((KeepsOthers.setCell _ _ _).from _), by simpa using hS.2.2.2⟩)
      generalize fill VS L A0 = A at e3 e23 ⊢
      simp [execOp, go_sem, e3, e23, c1, c2]
      rfl
    · intro w' hS'
      exact ⟨hS'.2.2.1, hS'.2.1, hS'.1, hb.trans hS'.2.1⟩

end Go.Proofs.Ytgdhgncdpmalcaa.Ring
namespace Go.Proofs.Ytgdhgncdpmalcaa.Ring
open Go.RowKit Go.Shelf Go.Proofs.Ytgdhgncdpmalcaa.Q Go.Proofs.Ytgdhgncdpmalcaa.Drawn Go.Proofs.YtgdhgncdpmalcaaW.PrintWords Go.Proofs.YtgdhgncdpmalcaaW.PrintLast Go.Proofs.YtgdhgncdpmalcaaW.PrintMore
set_option linter.unusedVariables false
set_option linter.unusedSimpArgs false
attribute [local go_sem] Oper.semAt_some

def okS (l : List Pt) : Bool := Pure.cvB l && simpleB l
theorem simple_b (top : Nat) (bs : Nat → Nat) (l : List Pt) (w : World) (hR : Ring w top bs l) (htop : top ≤ w.heap.size) (b : Bool) (h : simpleB l = b) :
    Calls Try.prog 76 #[.agg #[.pointer (some ⟨bs 0, 0, none⟩), .int .i64 l.length]] w fun e w' => e = .returned (.bool b) ∧ Below w.heap.size w w' := by
  rw [← h]; exact simple_calls top bs l w hR htop
set_option maxRecDepth 100000 in
set_option maxHeartbeats 4000000 in
theorem simple_isnt_a (A0 : Option Addr) (c0 : Nat) (l0 : List Pt) (w : World) (hr0 : Kd.C k32 w A0 l0.length l0) (hc0 : l0.length ≤ c0) (h : Pure.cvB l0 = false) :
    Calls Try.prog 49 #[.slice A0 l0.length c0] w (NoRing w) := by
  have HR0 := Aside0.mk hr0
  have HC0 := Aside0.mk hc0
  have HX := Aside0.mk h
  clear hr0 hc0 h
  go_enter Try.func49, Try.ntmps49
  go_wp2_with (go_at_call 43; refine (outline_isnt A0 c0 l0 _ ?s1 HC0.out HX.out).mono ?_; (case s1 => exact qq61); rintro e w1 ⟨rfl, hb⟩; have hz : w.heap.size < w1.heap.size := qq60; have hz1 : ¬ w1.heap.size = w.heap.size := (by omega); have hz2 : ¬ w.heap.size = w1.heap.size := (by omega); have HB := Aside0.mk (((Below.refl w.heap.size w).alloc (Nat.le_refl _) _).trans (hb.mono (by simp))); have hb' := Below.mono hb (B' := w.heap.size + 1) (by simp); have z0 := (at_new hb' 0).1; have z1 := (at_new hb' 1).1; have y0 := (at_new hb' 0).2; have y1 := (at_new hb' 1).2; simp [go_sem] at z0 z1 y0 y1; clear hb hb')
  refine bodyPost_ret (v := .tuple #[.agg #[.pointer none, .int .i64 0], .bool false]) (by simp [results, Try.results49, go_sem, z0, z1, hz, hz1, hz2]) rfl ⟨rfl, ?_⟩
  exact ((HB.out.setCell (p := ⟨w.heap.size, 0, none⟩) (Nat.le_refl _) _).setCell (p := ⟨w.heap.size, 1, none⟩) (Nat.le_refl _) _).alloc (by simp; omega) _
set_option maxRecDepth 100000 in
set_option maxHeartbeats 4000000 in
theorem simple_isnt_b (A0 : Option Addr) (c0 : Nat) (l0 : List Pt) (w : World) (hr0 : Kd.C k32 w A0 l0.length l0) (hc0 : l0.length ≤ c0) (h : Pure.cvB l0 = true) (hn : simpleB l0 = false) :
    Calls Try.prog 49 #[.slice A0 l0.length c0] w (NoRing w) := by
  have HR0 := Aside0.mk hr0
  have HC0 := Aside0.mk hc0
  have HX := Aside0.mk h
  have HN := Aside0.mk hn
  clear hr0 hc0 h hn
  go_enter Try.func49, Try.ntmps49
  go_wp2_with (first | (go_at_call 43; refine (outline_is A0 c0 l0 _ ?s1 HC0.out HX.out).mono ?_; (case s1 => exact qq61); rintro e w1 ⟨bs, rfl, hR, hlo0, hb⟩; have HLO := Aside0.mk (fun j hj => (show w.heap.size + 1 ≤ bs j from by have := hlo0 j hj; simpa using this)); clear hlo0; have hz : w.heap.size < w1.heap.size := qq60; have hz1 : ¬ w1.heap.size = w.heap.size := (by omega); have hz2 : ¬ w.heap.size = w1.heap.size := (by omega); have HB := Aside0.mk (((Below.refl w.heap.size w).alloc (Nat.le_refl _) _).trans (hb.mono (by simp))); have hb' := Below.mono hb (B' := w.heap.size + 1) (by simp); have z0 := (at_new hb' 0).1; have z1 := (at_new hb' 1).1; have y0 := (at_new hb' 0).2; have y1 := (at_new hb' 1).2; simp [go_sem] at z0 z1 y0 y1; have HR := Aside0.mk hR; clear hb hb' hR) | (go_at_call 76; refine (simple_b w1.heap.size bs l0 _ (HR.out.below ((Below.refl _ _).alloc (Nat.le_refl _) _)) (by simp) false HN.out).mono ?_; rintro e w2 ⟨rfl, hb2⟩; have hs2 : w1.heap.size + 1 ≤ w2.heap.size := qq84; have HB2 := Aside0.mk ((HB.out.alloc (by omega) (.cells #[.pointer (some ⟨bs 0, 0, none⟩), .int .i64 l0.length] 54)).trans (hb2.mono (by simp; omega))); have hb1 : Below (w1.heap.size + 1) (w1.alloc (.cells #[.pointer (some ⟨bs 0, 0, none⟩), .int .i64 l0.length] 54)) w2 := hb2.mono (by simp); have q0 := ((((Below.refl w1.heap.size w1).alloc (Nat.le_refl _) _).trans (hb1.mono (by omega))).cell (p := ⟨w.heap.size, 0, none⟩) hz).trans z0; have q1 := ((((Below.refl w1.heap.size w1).alloc (Nat.le_refl _) _).trans (hb1.mono (by omega))).cell (p := ⟨w.heap.size, 1, none⟩) hz).trans z1; have x0 := ((((Below.refl w1.heap.size w1).alloc (Nat.le_refl _) _).trans (hb1.mono (by omega))).frozen (p := ⟨w.heap.size, 0, none⟩) hz).trans y0; have x1 := ((((Below.refl w1.heap.size w1).alloc (Nat.le_refl _) _).trans (hb1.mono (by omega))).frozen (p := ⟨w.heap.size, 1, none⟩) hz).trans y1; have v0 := (at_new hb1 0).1; have v1 := (at_new hb1 1).1; simp at v0 v1; have HR2 := Aside0.mk (((HR.out.below ((Below.refl _ _).alloc (Nat.le_refl _) _)).below (hb1.mono (by omega)) |>.mono (show w1.heap.size ≤ w2.heap.size by omega))); clear hb2 hb1))
  refine bodyPost_ret (v := .tuple #[.agg #[.pointer none, .int .i64 0], .bool false]) (by simp [results, Try.results49, go_sem, q0, q1, hz, hz1, hz2]) rfl ⟨rfl, ?_⟩
  exact (HB2.out.setCell (p := ⟨w.heap.size, 0, none⟩) (Nat.le_refl _) _).setCell (p := ⟨w.heap.size, 1, none⟩) (Nat.le_refl _) _
set_option maxRecDepth 100000 in
set_option maxHeartbeats 4000000 in
theorem simple_is (A0 : Option Addr) (c0 : Nat) (l0 : List Pt) (w : World) (hr0 : Kd.C k32 w A0 l0.length l0) (hc0 : l0.length ≤ c0) (h : Pure.cvB l0 = true) (hn : simpleB l0 = true) :
    Calls Try.prog 49 #[.slice A0 l0.length c0] w (IsRing w l0) := by
  have HR0 := Aside0.mk hr0
  have HC0 := Aside0.mk hc0
  have HX := Aside0.mk h
  have HN := Aside0.mk hn
  clear hr0 hc0 h hn
  go_enter Try.func49, Try.ntmps49
  go_wp2_with (first | (go_at_call 43; refine (outline_is A0 c0 l0 _ ?s1 HC0.out HX.out).mono ?_; (case s1 => exact qq61); rintro e w1 ⟨bs, rfl, hR, hlo0, hb⟩; have HLO := Aside0.mk (fun j hj => (show w.heap.size + 1 ≤ bs j from by have := hlo0 j hj; simpa using this)); clear hlo0; have hz : w.heap.size < w1.heap.size := qq60; have hz1 : ¬ w1.heap.size = w.heap.size := (by omega); have hz2 : ¬ w.heap.size = w1.heap.size := (by omega); have HB := Aside0.mk (((Below.refl w.heap.size w).alloc (Nat.le_refl _) _).trans (hb.mono (by simp))); have hb' := Below.mono hb (B' := w.heap.size + 1) (by simp); have z0 := (at_new hb' 0).1; have z1 := (at_new hb' 1).1; have y0 := (at_new hb' 0).2; have y1 := (at_new hb' 1).2; simp [go_sem] at z0 z1 y0 y1; have HR := Aside0.mk hR; clear hb hb' hR) | (go_at_call 76; refine (simple_b w1.heap.size bs l0 _ (HR.out.below ((Below.refl _ _).alloc (Nat.le_refl _) _)) (by simp) true HN.out).mono ?_; rintro e w2 ⟨rfl, hb2⟩; have hs2 : w1.heap.size + 1 ≤ w2.heap.size := qq84; have HB2 := Aside0.mk ((HB.out.alloc (by omega) (.cells #[.pointer (some ⟨bs 0, 0, none⟩), .int .i64 l0.length] 54)).trans (hb2.mono (by simp; omega))); have hb1 : Below (w1.heap.size + 1) (w1.alloc (.cells #[.pointer (some ⟨bs 0, 0, none⟩), .int .i64 l0.length] 54)) w2 := hb2.mono (by simp); have q0 := ((((Below.refl w1.heap.size w1).alloc (Nat.le_refl _) _).trans (hb1.mono (by omega))).cell (p := ⟨w.heap.size, 0, none⟩) hz).trans z0; have q1 := ((((Below.refl w1.heap.size w1).alloc (Nat.le_refl _) _).trans (hb1.mono (by omega))).cell (p := ⟨w.heap.size, 1, none⟩) hz).trans z1; have x0 := ((((Below.refl w1.heap.size w1).alloc (Nat.le_refl _) _).trans (hb1.mono (by omega))).frozen (p := ⟨w.heap.size, 0, none⟩) hz).trans y0; have x1 := ((((Below.refl w1.heap.size w1).alloc (Nat.le_refl _) _).trans (hb1.mono (by omega))).frozen (p := ⟨w.heap.size, 1, none⟩) hz).trans y1; have v0 := (at_new hb1 0).1; have v1 := (at_new hb1 1).1; simp at v0 v1; have HR2 := Aside0.mk (((HR.out.below ((Below.refl _ _).alloc (Nat.le_refl _) _)).below (hb1.mono (by omega)) |>.mono (show w1.heap.size ≤ w2.heap.size by omega))); clear hb2 hb1))
  refine bodyPost_ret (v := .tuple #[.agg #[.pointer (some ⟨bs 0, 0, none⟩), .int .i64 l0.length], .bool true]) (by simp [results, Try.results49, go_sem, q0, q1, hz, hz1, hz2]) rfl ⟨bs, rfl, ?_, fun j hj => by have := HLO.out j hj; omega, ?_⟩
  · exact ((HR2.out.setCell (p := ⟨w.heap.size, 0, none⟩) (fun j hj => by have := HLO.out j hj; dsimp only; omega) _).setCell (p := ⟨w.heap.size, 1, none⟩) (fun j hj => by have := HLO.out j hj; dsimp only; omega) _).mono (by simp)
  · exact (HB2.out.setCell (p := ⟨w.heap.size, 0, none⟩) (Nat.le_refl _) _).setCell (p := ⟨w.heap.size, 1, none⟩) (Nat.le_refl _) _

end Go.Proofs.Ytgdhgncdpmalcaa.Ring
namespace Go.Proofs.Ytgdhgncdpmalcaa.Ring
open Go.RowKit Go.Shelf Go.Proofs.Ytgdhgncdpmalcaa.Q Go.Proofs.Ytgdhgncdpmalcaa.Drawn Go.Proofs.YtgdhgncdpmalcaaW.PrintWords Go.Proofs.YtgdhgncdpmalcaaW.PrintLast Go.Proofs.YtgdhgncdpmalcaaW.PrintMore
set_option linter.unusedVariables false
set_option linter.unusedSimpArgs false
attribute [local go_sem] Oper.semAt_some
theorem simple_isnt (A0 : Option Addr) (c0 : Nat) (l0 : List Pt) (w : World) (hr0 : Kd.C k32 w A0 l0.length l0) (hc0 : l0.length ≤ c0) (h : okS l0 = false) :
    Calls Try.prog 49 #[.slice A0 l0.length c0] w (NoRing w) := by
  cases hc : Pure.cvB l0
  · exact simple_isnt_a A0 c0 l0 w hr0 hc0 hc
  · exact simple_isnt_b A0 c0 l0 w hr0 hc0 hc (by unfold okS at h; rw [hc, Bool.true_and] at h; exact h)
theorem simple_yes (A0 : Option Addr) (c0 : Nat) (l0 : List Pt) (w : World) (hr0 : Kd.C k32 w A0 l0.length l0) (hc0 : l0.length ≤ c0) (h : okS l0 = true) :
    Calls Try.prog 49 #[.slice A0 l0.length c0] w (IsRing w l0) := by
  unfold okS at h
  rw [Bool.and_eq_true] at h
  exact simple_is A0 c0 l0 w hr0 hc0 h.1 h.2
end Go.Proofs.Ytgdhgncdpmalcaa.Ring
namespace Go.Proofs.Ytgdhgncdpmalcaa.Ring
open Go.RowKit Go.Shelf Go.Proofs.Ytgdhgncdpmalcaa.Q Go.Proofs.Ytgdhgncdpmalcaa.Drawn Go.Proofs.YtgdhgncdpmalcaaW.PrintWords Go.Proofs.YtgdhgncdpmalcaaW.PrintLast Go.Proofs.YtgdhgncdpmalcaaW.PrintMore
set_option linter.unusedVariables false
set_option linter.unusedSimpArgs false
attribute [local go_sem] Oper.semAt_some
def flipB (a b p : Pt) : Bool := (decide (p.f1 < a.f1) != decide (p.f1 < b.f1)) && (decide (a.f1 < b.f1) == decide (0 < sgnP a b p))
def placeV (l : List Pt) (p : Pt) : Nat → Int
  | 0 => -1
  | j + 1 => if flipB (at_ l j) (nxt l j) p then -(placeV l p j) else placeV l p j
theorem placeV_bd (l : List Pt) (p : Pt) (j : Nat) : placeV l p j = 1 ∨ placeV l p j = -1 := by
  induction j with
  | zero => exact .inr rfl
  | succ j ih => simp only [placeV]; split <;> omega
def onAt (l : List Pt) (p : Pt) (j : Nat) : Bool := onPt (at_ l j) (nxt l j) p
def placeR (l : List Pt) (p : Pt) : Int := if (List.range l.length).any (onAt l p) then 0 else placeV l p l.length
theorem placeR_on {l : List Pt} {p : Pt} {j : Nat} (hj : j < l.length) (h : onAt l p j = true) : placeR l p = 0 := by
  unfold placeR
  rw [if_pos (List.any_eq_true.2 ⟨j, List.mem_range.2 hj, h⟩)]
theorem placeR_off {l : List Pt} {p : Pt} (h : ∀ j, j < l.length → onAt l p j = false) : placeR l p = placeV l p l.length := by
  unfold placeR
  rw [if_neg]
  intro c
  obtain ⟨j, hj, hc⟩ := List.any_eq_true.1 c
  rw [h j (List.mem_range.1 hj)] at hc; cases hc
def sidB (p q r : Pt) : Bool := (Pure.sideR p.f0 p.f1 q.f0 q.f1 r.f0 r.f1).2
theorem sideI_f (p q r : Pt) : impl_PointSide.f 1 p.f0 p.f1 q.f0 q.f1 r.f0 r.f1 = some (sgnP p q r, sidB p q r) := Pure.impl_PointSide_eq 0 _ _ _ _ _ _
set_option maxRecDepth 100000 in
set_option maxHeartbeats 4000000 in
theorem place_calls (top : Nat) (bs : Nat → Nat) (l : List Pt) (p : Pt) (w : World) (hR : Ring w top bs l) (htop : top ≤ w.heap.size) :
    Calls Try.prog 56 #[.agg #[.pointer (some ⟨bs 0, 0, none⟩), .int .i64 l.length], .agg #[.int .i64 p.f0, .int .i64 p.f1]] w fun e w' => e = .returned (.int .i64 (placeR l p)) ∧ Below w.heap.size w w' := by
  refine (callsIn_wide (n := 0)).1 (callsIn_of_wp_marks Try.func56 rfl trivial ?_ rfl)
  simp only [Try.ntmps56, List.size_toArray, List.length_cons, List.length_nil, Nat.reduceAdd, Nat.reduceSub, Array.replicate_succ, Array.replicate_zero, List.push_toArray, List.append_toArray, List.nil_append, List.cons_append]
  have HR := Aside0.mk hR
  clear hR
  gi_wp2
  obtain ⟨W0, hW0⟩ : ∃ W0, (((w.alloc (.cells #[.pointer (some ⟨bs 0, 0, none⟩), .int .i64 l.length] 54)).alloc (.cells #[.int .i64 p.f0, .int .i64 p.f1] 32)).alloc (.cells #[.int .i64 0] 3)).alloc (.cells #[.int .i64 (-1)] 3) = W0 := ⟨_, rfl⟩
  have hs : W0.heap.size = w.heap.size + 4 := by rw [← hW0]; simp
  have hc0 : W0.cell? ⟨w.heap.size + 2, 0, none⟩ = some (.int .i64 0) := by rw [← hW0]; simp [go_sem]
  have hf0 : W0.frozen? ⟨w.heap.size + 2, 0, none⟩ = false := by rw [← hW0]; simp [go_sem]
  have hv0 : W0.cell? ⟨w.heap.size + 3, 0, none⟩ = some (.int .i64 (-1)) := by rw [← hW0]; simp [go_sem]
  have hw0 : W0.frozen? ⟨w.heap.size + 3, 0, none⟩ = false := by rw [← hW0]; simp [go_sem]
  have hp0 : W0.cell? ⟨w.heap.size + 1, 0, none⟩ = some (.int .i64 p.f0) := by rw [← hW0]; simp [go_sem]
  have hp1 : W0.cell? ⟨w.heap.size + 1, 1, none⟩ = some (.int .i64 p.f1) := by rw [← hW0]; simp [go_sem]
  have hb0 : Below w.heap.size w W0 := by rw [← hW0]; exact ((((Below.refl _ w).alloc (Nat.le_refl _) _).alloc (by simp) _).alloc (by simp; omega) _).alloc (by simp; omega) _
  rw [hW0]
  clear hW0
  have HR0 := Aside0.mk ((HR.out.mono htop).below hb0)
  refine range_ring (w.heap.size + 3) bs l (HR0.out.mono (by omega)) (by omega) rfl
    (fun j W => (∀ i, i < j → onAt l p i = false) ∧ (W.cell? ⟨w.heap.size + 3, 0, none⟩ = some (.int .i64 (placeV l p j)) ∧ W.frozen? ⟨w.heap.size + 3, 0, none⟩ = false) ∧ Below (w.heap.size + 3) W0 W)
    (fun c W => c = .ret ∧ (W.cell? ⟨w.heap.size + 2, 0, none⟩ = some (.int .i64 0) ∧ Below w.heap.size w W) ∧ placeR l p = 0)
    ?hI ?hIx ⟨fun i hi => by omega, ⟨hv0, hw0⟩, Below.refl _ _⟩ ?a1 ?assign ?body ?done ?stop
  case hI => exact fun s A B row hs' hg hr => ⟨hs'.1, ⟨cell_kept hs'.2.1.1 hg (fun r e => (hr r e).2), (frozen_kept hs'.2.1.1 hg (fun r e => (hr r e).2)).trans hs'.2.1.2⟩, ownFrom_below (β := Unit) (by omega) (by omega) () A B row hs'.2.2 hg hr⟩
  case hIx => exact fun c A B row hs' hg hr => ⟨hs'.1, ⟨cell_kept hs'.2.1.1 hg (fun r e => (hr r e).2), ownFrom_below (β := Unit) (n₀ := w.heap.size) (w₀ := w) (Nat.le_refl _) (by omega) () A B row hs'.2.1.2 hg hr⟩, hs'.2.2⟩
  case assign =>
    intro r k W K hK
    gi_wp2
    exact hK
  case stop =>
    rintro D c W hD ⟨rfl, ⟨hc, hb⟩, hsb⟩ hK
    have HSB := Aside0.mk hsb
    clear hsb
    have hcD : (W.putObj D (.deferred none)).cell? ⟨w.heap.size + 2, 0, none⟩ = some (.int .i64 0) := cell_kept hc (grownBy_putObj' _ D (.deferred none)) (fun r e => by cases e; exact ⟨_, hK, rfl⟩)
    gi_wp2
    refine ⟨by simp, .inl ⟨_, _, rfl, run_takeDeferred hK, ?_⟩⟩
    exact ⟨_, (by simp [results, Try.results56, go_sem, hcD]; rfl), by rw [HSB.out], hb.trans (belowK_b (w := W0) (by omega) _ _ _ _ hD hK rfl rfl)⟩
  case done =>
    rintro D W hD ⟨hp, ⟨hv, hvf⟩, hb⟩ hK
    have HSB := Aside0.mk (placeR_off hp)
    have hc := (hb.cell (p := ⟨w.heap.size + 2, 0, none⟩) (by dsimp only; omega)).trans hc0
    have hf := (hb.frozen (p := ⟨w.heap.size + 2, 0, none⟩) (by dsimp only; omega)).trans hf0
    have hK' := (KeepsOthers.setCell W ⟨w.heap.size + 2, 0, none⟩ (.int .i64 (placeV l p l.length))).same D _ hK rfl
    have hcD : ((W.setCell ⟨w.heap.size + 2, 0, none⟩ (.int .i64 (placeV l p l.length))).putObj D (.deferred none)).cell? ⟨w.heap.size + 2, 0, none⟩ = some (.int .i64 (placeV l p l.length)) := cell_kept (World.cell?_setCell_same _ _ _ hc) (grownBy_putObj' _ D (.deferred none)) (fun r e => by cases e; exact ⟨_, hK', rfl⟩)
    have hbE := ((hb0.trans (hb.mono (by omega))).setCell (p := ⟨w.heap.size + 2, 0, none⟩) (by dsimp only; omega) (.int .i64 (placeV l p l.length))).trans (belowK_b (w := W0) (n₀ := w.heap.size) (by omega) _ _ _ (.deferred none) hD hK' rfl rfl)
    clear hp
    gi_wp2
    refine ⟨by simp, .inl ⟨_, _, rfl, run_takeDeferred hK', ?_⟩⟩
    exact ⟨_, (by simp [results, Try.results56, go_sem, hcD]; rfl), by rw [HSB.out], hbE⟩
  case body =>
    rintro r k W hk ⟨hpre, ⟨hv, hvf⟩, hb⟩ hbt
    have HF := wide_round Try.prog r
    have hsW := hb.size
    have hRW0 := ((HR0.out.mono (show w.heap.size ≤ w.heap.size + 3 by omega)).below hb).mono (show w.heap.size + 3 ≤ W.heap.size by omega)
    have hRW := hRW0
    have hkp := hRW.pos
    have hrx := Aside0.mk (fun w' (h : Below W.heap.size W w') => (hRW.below h).x k hk)
    have hry := Aside0.mk (fun w' (h : Below W.heap.size W w') => (hRW.below h).y k hk)
    have hrn := Aside0.mk (fun w' (h : Below W.heap.size W w') => (hRW.below h).next k hk)
    have hnk : (k + 1) % l.length < l.length := Nat.mod_lt _ (by omega)
    have hnx := Aside0.mk (fun w' (h : Below W.heap.size W w') => (show w'.cell? ⟨bs ((k + 1) % l.length), 0, none⟩ = some (.int .i64 (nxt l k).f0) from (hRW.below h).x _ hnk))
    have hny := Aside0.mk (fun w' (h : Below W.heap.size W w') => (show w'.cell? ⟨bs ((k + 1) % l.length), 1, none⟩ = some (.int .i64 (nxt l k).f1) from (hRW.below h).y _ hnk))
    clear hRW
    have hpx := (hb.cell (p := ⟨w.heap.size + 1, 0, none⟩) (by dsimp only; omega)).trans hp0
    have hpy := (hb.cell (p := ⟨w.heap.size + 1, 1, none⟩) (by dsimp only; omega)).trans hp1
    have hc := (hb.cell (p := ⟨w.heap.size + 2, 0, none⟩) (by dsimp only; omega)).trans hc0
    have hf := (hb.frozen (p := ⟨w.heap.size + 2, 0, none⟩) (by dsimp only; omega)).trans hf0
    have HV := Aside0.mk (placeV_bd l p k)
    gi_wp2
    obtain ⟨VS, hVS⟩ : ∃ VS : (Nat → Nat) → List (Option Tmp × Value), (fun B => [(some 14, .pointer (some ⟨bs k, 0, none⟩)), (some 15, .pointer (some ⟨bs k, 0, none⟩)), (some 16, .pointer (some ⟨bs k, 0, none⟩)), (some 17, .agg #[.int .i64 (at_ l k).f0, .int .i64 (at_ l k).f1]), (some 18, .pointer (some ⟨bs k, 0, none⟩)), (some 19, .pointer (some ⟨bs k, 0, none⟩)), (some 20, .pointer (some ⟨bs k, 2, none⟩)), (some 21, .pointer (some ⟨bs ((k + 1) % l.length), 0, none⟩)), (some 22, .pointer (some ⟨bs ((k + 1) % l.length), 0, none⟩)), (some 23, .pointer (some ⟨bs ((k + 1) % l.length), 0, none⟩)), (some 24, .agg #[.int .i64 (nxt l k).f0, .int .i64 (nxt l k).f1]), (some 7, .pointer (some ⟨B 0, 0, none⟩)), (some 8, .pointer (some ⟨B 1, 0, none⟩)), (none, undef), (none, undef)]) = VS := ⟨_, rfl⟩
    have HN : ∀ B, ((VS B).filterMap (·.1)).Nodup := fun B => by rw [← hVS]; exact (show List.Nodup [(14 : Tmp), (15 : Tmp), (16 : Tmp), (17 : Tmp), (18 : Tmp), (19 : Tmp), (20 : Tmp), (21 : Tmp), (22 : Tmp), (23 : Tmp), (24 : Tmp), (7 : Tmp), (8 : Tmp)] by decide)
    refine act_name fun A0 hA0 => ?_
    have E6 : ∀ (B : Nat → Nat) (L : List Bool), (fill (VS B) L A0).tmps[6]?.getD undef = .pointer (some ⟨bs k, 0, none⟩) := fun B L => fill_old _ _ _ (by rw [← hVS]; exact (show (6 : Tmp) ∉ [(14 : Tmp), (15 : Tmp), (16 : Tmp), (17 : Tmp), (18 : Tmp), (19 : Tmp), (20 : Tmp), (21 : Tmp), (22 : Tmp), (23 : Tmp), (24 : Tmp), (7 : Tmp), (8 : Tmp)] by decide)) (by rw [← hA0]; rfl)
    have hT_ : 24 < A0.tmps.size := by rw [← hA0]; simp
    have hSa : ∀ w' : World, W.heap.size ≤ w'.heap.size → (fun w' => Below W.heap.size W w') w' → ∀ o, (fun w' => Below W.heap.size W w') (w'.alloc o) := fun w' hz h o => h.alloc hz o
    have hSs : ∀ (w' : World) (p : Addr) (v : Value), W.heap.size ≤ p.block → (fun w' => Below W.heap.size W w') w' → (fun w' => Below W.heap.size W w') (w'.setCell p v) := fun w' p v hp h => h.setCell hp v
    refine drawn_any (by kernel_rfl) (early_spec (by kernel_rfl)) (show List.Nodup [(14 : Tmp), (15 : Tmp), (16 : Tmp), (17 : Tmp), (18 : Tmp), (19 : Tmp), (20 : Tmp), (21 : Tmp), (22 : Tmp), (23 : Tmp), (24 : Tmp), (7 : Tmp), (8 : Tmp)] by decide) (fun L vs w' => ∃ B : Nat → Nat, vs = VS B ∧ Boxes (W.heap.size) (fun w' => Below W.heap.size W w') 2 (fun t => 11 + t) (fun t => 13 + t) (fun t => match t with | 0 => ((at_ l k).f0, (at_ l k).f1) | _ => ((nxt l k).f0, (nxt l k).f1)) L B w') (fun L vs w' h => by obtain ⟨B, rfl, _⟩ := h; rw [← hVS]; rfl) (VS (fun _ => 0)) ⟨fun _ => 0, rfl, Boxes.start ((Below.refl _ _).drew) (by simp) _⟩ ?_ ?_
    · intro i o vs L w' ho hl hli hpre hcl hV K hK
      obtain ⟨B, rfl, hT⟩ := hV
      have hS := hT.s
      have hii : i = 0 ∨ i = 1 ∨ i = 2 ∨ i = 3 ∨ i = 4 ∨ i = 5 ∨ i = 6 ∨ i = 7 ∨ i = 8 ∨ i = 9 ∨ i = 10 ∨ i = 11 ∨ i = 12 ∨ i = 13 ∨ i = 14 := by have hq := (Array.getElem?_eq_some_iff.1 ho).1; simp at hq; omega
      rcases hii with rfl | rfl | rfl | rfl | rfl | rfl | rfl | rfl | rfl | rfl | rfl | rfl | rfl | rfl | rfl
      · obtain rfl := Option.some.inj ho
        have e6 := E6 B L
        refine st_val HF rfl (by simp) rfl (v := .pointer (some ⟨bs k, 0, none⟩)) (w' := w') ?_ (hK _ w' ⟨B, by rw [← hVS]; rfl, hT.keep (fun t ht => by omega) (fun t ht => by omega)⟩)
        generalize fill (VS B) L A0 = A at e6 ⊢
        simp [execOp, go_sem, i64_w, e6]
      · obtain rfl := Option.some.inj ho
        have e14 := fill_getB (B := B) HN hVS hT_ (t := 14) (j := 0) rfl rfl (hpre ⟨0, .data⟩ (by simp) rfl)
        refine st_val HF rfl (by simp) rfl (v := .pointer (some ⟨bs k, 0, none⟩)) (w' := w') ?_ (hK _ w' ⟨B, by rw [← hVS]; rfl, hT.keep (fun t ht => by omega) (fun t ht => by omega)⟩)
        generalize fill (VS B) L A0 = A at e14 ⊢
        simp [execOp, go_sem, i64_w, e14]
      · obtain rfl := Option.some.inj ho
        have e15 := fill_getB (B := B) HN hVS hT_ (t := 15) (j := 1) rfl rfl (hpre ⟨1, .data⟩ (by simp) rfl)
        refine st_val HF rfl (by simp) rfl (v := .pointer (some ⟨bs k, 0, none⟩)) (w' := w') ?_ (hK _ w' ⟨B, by rw [← hVS]; rfl, hT.keep (fun t ht => by omega) (fun t ht => by omega)⟩)
        generalize fill (VS B) L A0 = A at e15 ⊢
        simp [execOp, go_sem, i64_w, e15]
      · obtain rfl := Option.some.inj ho
        have e16 := fill_getB (B := B) HN hVS hT_ (t := 16) (j := 2) rfl rfl (hpre ⟨2, .data⟩ (by simp) rfl)
        have c1 := hrx.out w' hS
        have c2 := hry.out w' hS
        refine st_val HF rfl (by simp) rfl (v := .agg #[.int .i64 (at_ l k).f0, .int .i64 (at_ l k).f1]) (w' := w') ?_ (hK _ w' ⟨B, by rw [← hVS]; rfl, hT.keep (fun t ht => by omega) (fun t ht => by omega)⟩)
        generalize fill (VS B) L A0 = A at e16 ⊢
        simp [execOp, go_sem, i64_w, e16, c1, c2]
      · obtain rfl := Option.some.inj ho
        have e6 := E6 B L
        refine st_val HF rfl (by simp) rfl (v := .pointer (some ⟨bs k, 0, none⟩)) (w' := w') ?_ (hK _ w' ⟨B, by rw [← hVS]; rfl, hT.keep (fun t ht => by omega) (fun t ht => by omega)⟩)
        generalize fill (VS B) L A0 = A at e6 ⊢
        simp [execOp, go_sem, i64_w, e6]
      · obtain rfl := Option.some.inj ho
        have e18 := fill_getB (B := B) HN hVS hT_ (t := 18) (j := 4) rfl rfl (hpre ⟨4, .data⟩ (by simp) rfl)
        refine st_val HF rfl (by simp) rfl (v := .pointer (some ⟨bs k, 0, none⟩)) (w' := w') ?_ (hK _ w' ⟨B, by rw [← hVS]; rfl, hT.keep (fun t ht => by omega) (fun t ht => by omega)⟩)
        generalize fill (VS B) L A0 = A at e18 ⊢
        simp [execOp, go_sem, i64_w, e18]
      · obtain rfl := Option.some.inj ho
        have e19 := fill_getB (B := B) HN hVS hT_ (t := 19) (j := 5) rfl rfl (hpre ⟨5, .data⟩ (by simp) rfl)
        refine st_val HF rfl (by simp) rfl (v := .pointer (some ⟨bs k, 2, none⟩)) (w' := w') ?_ (hK _ w' ⟨B, by rw [← hVS]; rfl, hT.keep (fun t ht => by omega) (fun t ht => by omega)⟩)
        generalize fill (VS B) L A0 = A at e19 ⊢
        simp [execOp, go_sem, i64_w, e19]
      · obtain rfl := Option.some.inj ho
        have e20 := fill_getB (B := B) HN hVS hT_ (t := 20) (j := 6) rfl rfl (hpre ⟨6, .data⟩ (by simp) rfl)
        have c1 := hrn.out w' hS
        refine st_val HF rfl (by simp) rfl (v := .pointer (some ⟨bs ((k + 1) % l.length), 0, none⟩)) (w' := w') ?_ (hK _ w' ⟨B, by rw [← hVS]; rfl, hT.keep (fun t ht => by omega) (fun t ht => by omega)⟩)
        generalize fill (VS B) L A0 = A at e20 ⊢
        simp [execOp, go_sem, i64_w, e20, c1]
      · obtain rfl := Option.some.inj ho
        have e21 := fill_getB (B := B) HN hVS hT_ (t := 21) (j := 7) rfl rfl (hpre ⟨7, .data⟩ (by simp) rfl)
        refine st_val HF rfl (by simp) rfl (v := .pointer (some ⟨bs ((k + 1) % l.length), 0, none⟩)) (w' := w') ?_ (hK _ w' ⟨B, by rw [← hVS]; rfl, hT.keep (fun t ht => by omega) (fun t ht => by omega)⟩)
        generalize fill (VS B) L A0 = A at e21 ⊢
        simp [execOp, go_sem, i64_w, e21]
      · obtain rfl := Option.some.inj ho
        have e22 := fill_getB (B := B) HN hVS hT_ (t := 22) (j := 8) rfl rfl (hpre ⟨8, .data⟩ (by simp) rfl)
        refine st_val HF rfl (by simp) rfl (v := .pointer (some ⟨bs ((k + 1) % l.length), 0, none⟩)) (w' := w') ?_ (hK _ w' ⟨B, by rw [← hVS]; rfl, hT.keep (fun t ht => by omega) (fun t ht => by omega)⟩)
        generalize fill (VS B) L A0 = A at e22 ⊢
        simp [execOp, go_sem, i64_w, e22]
      · obtain rfl := Option.some.inj ho
        have e23 := fill_getB (B := B) HN hVS hT_ (t := 23) (j := 9) rfl rfl (hpre ⟨9, .data⟩ (by simp) rfl)
        have c1 := hnx.out w' hS
        have c2 := hny.out w' hS
        refine st_val HF rfl (by simp) rfl (v := .agg #[.int .i64 (nxt l k).f0, .int .i64 (nxt l k).f1]) (w' := w') ?_ (hK _ w' ⟨B, by rw [← hVS]; rfl, hT.keep (fun t ht => by omega) (fun t ht => by omega)⟩)
        generalize fill (VS B) L A0 = A at e23 ⊢
        simp [execOp, go_sem, i64_w, e23, c1, c2]
      · obtain rfl := Option.some.inj ho
        refine st_val HF rfl (by simp) rfl (v := .pointer (some ⟨w'.heap.size, 0, none⟩)) (w' := w'.alloc (.cells #[.int .i64 0, .int .i64 0] 32)) ?_ (hK _ _ ⟨fun t => if t = 0 then w'.heap.size else B t, by rw [← hVS]; rfl, hT.alloc (r := 0) (by decide) (fun t ht hne => by omega) (fun t ht => by omega) (fun hs => ?_) _ (hSa _ hT.sz hS _)⟩)
        · generalize fill (VS B) L A0 = A
          simp [execOp, go_sem]
        · have hq := hcl 13 _ rfl hs ⟨11, .data⟩ (by simp) rfl
          rw [hli] at hq; exact absurd hq (by simp)
      · obtain rfl := Option.some.inj ho
        refine st_val HF rfl (by simp) rfl (v := .pointer (some ⟨w'.heap.size, 0, none⟩)) (w' := w'.alloc (.cells #[.int .i64 0, .int .i64 0] 32)) ?_ (hK _ _ ⟨fun t => if t = 1 then w'.heap.size else B t, by rw [← hVS]; rfl, hT.alloc (r := 1) (by decide) (fun t ht hne => by omega) (fun t ht => by omega) (fun hs => ?_) _ (hSa _ hT.sz hS _)⟩)
        · generalize fill (VS B) L A0 = A
          simp [execOp, go_sem]
        · have hq := hcl 14 _ rfl hs ⟨12, .data⟩ (by simp) rfl
          rw [hli] at hq; exact absurd hq (by simp)
      · obtain rfl := Option.some.inj ho
        have e7 := fill_getB (B := B) HN hVS hT_ (t := 7) (j := 11) rfl rfl (hpre ⟨11, .data⟩ (by simp) rfl)
        have e17 := fill_getB (B := B) HN hVS hT_ (t := 17) (j := 3) rfl rfl (hpre ⟨3, .data⟩ (by simp) rfl)
        have hal := hpre ⟨11, .data⟩ (by simp) rfl
        obtain ⟨_, _, f0, f1, ⟨u0, k0⟩, ⟨u1, k1⟩, _⟩ := hT.box 0 (by decide) hal
        refine st_skip HF rfl (by simp) rfl (w' := (w'.setCell ⟨B 0, 0, none⟩ (.int .i64 (at_ l k).f0)).setCell ⟨B 0, 1, none⟩ (.int .i64 (at_ l k).f1)) ?_ (hK _ _ ⟨B, by rw [← hVS]; rfl, hT.store (r := 0) (by decide) (fun t ht hne => by omega) (fun t ht => by omega) hal (fun w' p v h1 h2 => hSs w' p v h1 h2)⟩)
        generalize fill (VS B) L A0 = A at e7 e17 ⊢
        simp [execOp, go_sem, k0, k1, f0, f1, e7, e17]
      · obtain rfl := Option.some.inj ho
        have e8 := fill_getB (B := B) HN hVS hT_ (t := 8) (j := 12) rfl rfl (hpre ⟨12, .data⟩ (by simp) rfl)
        have e24 := fill_getB (B := B) HN hVS hT_ (t := 24) (j := 10) rfl rfl (hpre ⟨10, .data⟩ (by simp) rfl)
        have hal := hpre ⟨12, .data⟩ (by simp) rfl
        obtain ⟨_, _, f0, f1, ⟨u0, k0⟩, ⟨u1, k1⟩, _⟩ := hT.box 1 (by decide) hal
        refine st_skip HF rfl (by simp) rfl (w' := (w'.setCell ⟨B 1, 0, none⟩ (.int .i64 (nxt l k).f0)).setCell ⟨B 1, 1, none⟩ (.int .i64 (nxt l k).f1)) ?_ (hK _ _ ⟨B, by rw [← hVS]; rfl, hT.store (r := 1) (by decide) (fun t ht hne => by omega) (fun t ht => by omega) hal (fun w' p v h1 h2 => hSs w' p v h1 h2)⟩)
        generalize fill (VS B) L A0 = A at e8 e24 ⊢
        simp [execOp, go_sem, k0, k1, f0, f1, e8, e24]
    · intro vs w' hV
      obtain ⟨B, rfl, hT⟩ := hV
      have hS := hT.s
      obtain ⟨bl0, bt0, bf0, bg0, _, _, bc0⟩ := hT.box 0 (by decide) rfl
      obtain ⟨bx0, by0⟩ := bc0 rfl
      obtain ⟨bl1, bt1, bf1, bg1, _, _, bc1⟩ := hT.box 1 (by decide) rfl
      obtain ⟨bx1, by1⟩ := bc1 rfl
      rw [← hVS, ← hA0]
      simp only [List.size_toArray, List.length_cons, List.length_nil, Nat.reduceAdd, List.replicate, fill, if_true, Act.put, List.setIfInBounds_toArray, List.set_cons_succ, List.set_cons_zero]
      clear HN hSa hSs E6 hVS hA0 hT_
      have HS := Aside0.mk hS
      have hzs : w.heap.size + 4 ≤ w'.heap.size := by have := hS.size; omega
      have jpx := (hS.cell (p := ⟨w.heap.size + 1, 0, none⟩) (by dsimp only; omega)).trans hpx
      have jpy := (hS.cell (p := ⟨w.heap.size + 1, 1, none⟩) (by dsimp only; omega)).trans hpy
      have jc := (hS.cell (p := ⟨w.heap.size + 2, 0, none⟩) (by dsimp only; omega)).trans hc
      have jf := (hS.frozen (p := ⟨w.heap.size + 2, 0, none⟩) (by dsimp only; omega)).trans hf
      have jv := (hS.cell (p := ⟨w.heap.size + 3, 0, none⟩) (by dsimp only; omega)).trans hv
      have jw := (hS.frozen (p := ⟨w.heap.size + 3, 0, none⟩) (by dsimp only; omega)).trans hvf
      have HPR := Aside0.mk hpre
      have HBT := Aside0.mk hbt
      clear hS hpx hpy hc hf hv hvf bc0 bc1 hT bf0 bf1 bg0 bg1 bl0 bl1 hpre hbt
      cases hq : onPt (at_ l k) (nxt l k) p
      · have HF1 := Aside0.mk ((onPt_f (at_ l k) (nxt l k) p).trans (by rw [hq]))
        have HON := Aside0.mk (show onAt l p k = false from hq)
        have HSD := Aside0.mk (sideI_f (at_ l k) (nxt l k) p)
        have HBND := Aside0.mk (show placeV l p (k + 1) = if flipB (at_ l k) (nxt l k) p then -(placeV l p k) else placeV l p k from rfl)
        have HFL := Aside0.mk (show flipB (at_ l k) (nxt l k) p = ((decide (p.f1 < (at_ l k).f1) != decide (p.f1 < (nxt l k).f1)) && (decide ((at_ l k).f1 < (nxt l k).f1) == decide (0 < sgnP (at_ l k) (nxt l k) p))) from rfl)
        clear hq
        obtain ⟨b1, hb1⟩ : ∃ b, decide (p.f1 < (at_ l k).f1) = b := ⟨_, rfl⟩
        obtain ⟨b2, hb2⟩ : ∃ b, decide (p.f1 < (nxt l k).f1) = b := ⟨_, rfl⟩
        obtain ⟨b3, hb3⟩ : ∃ b, decide ((at_ l k).f1 < (nxt l k).f1) = b := ⟨_, rfl⟩
        obtain ⟨b4, hb4⟩ : ∃ b, decide (0 < sgnP (at_ l k) (nxt l k) p) = b := ⟨_, rfl⟩
        rw [hb1, hb2, hb3, hb4] at HFL
        have fin : ∀ (W2 : World) (v : Int), KeepsFrom W0.heap.size W W2 → Below (w.heap.size + 3) W W2 → W2.cell? ⟨w.heap.size + 3, 0, none⟩ = some (.int .i64 v) → W2.frozen? ⟨w.heap.size + 3, 0, none⟩ = false → v = placeV l p (k + 1) →
            KeepsFrom W0.heap.size W W2 ∧ Below (w.heap.size + 3) W W2 ∧ (∀ i, i < k + 1 → onAt l p i = false) ∧ (W2.cell? ⟨w.heap.size + 3, 0, none⟩ = some (.int .i64 (placeV l p (k + 1))) ∧ W2.frozen? ⟨w.heap.size + 3, 0, none⟩ = false) ∧ Below (w.heap.size + 3) W0 W2 := by
          rintro W2 v hkf hW h1 h2 rfl
          exact ⟨hkf, hW, fun i hi => by
            by_cases e : i = k
            · subst e; exact HON.out
            · exact HPR.out i (by omega), ⟨h1, h2⟩, hb.trans hW⟩
        have FIN := Aside0.mk fin
        clear fin
        cases b1 <;> cases b2 <;> cases b3 <;> cases b4 <;>
        · (try (exfalso; simp only [decide_eq_true_eq, decide_eq_false_iff_not] at hb1 hb2 hb3; omega))
          gi_wp2_with (first | ((first | refine ⟨trivial, rfl, ?_⟩ | refine ⟨rfl, ?_⟩ | skip); gi_at_call 79; refine (CallsIn.inRound r (callsIn_wide.2 (impl_PointOn.calls 1 _ _ _ _ _ _ false _ HF1.out))).mono ?_; rintro e w2 ⟨rfl, hbb⟩; have HS2 := Aside0.mk (HS.out.trans (hbb.mono HS.out.size)); have hz2 := hbb.size; have kx0 := (hbb.cell (p := ⟨B 0, 0, none⟩) bt0).trans bx0; have ky0 := (hbb.cell (p := ⟨B 0, 1, none⟩) bt0).trans by0; have kx1 := (hbb.cell (p := ⟨B 1, 0, none⟩) bt1).trans bx1; have ky1 := (hbb.cell (p := ⟨B 1, 1, none⟩) bt1).trans by1; have kpx := (hbb.cell (p := ⟨w.heap.size + 1, 0, none⟩) (by dsimp only; omega)).trans jpx; have kpy := (hbb.cell (p := ⟨w.heap.size + 1, 1, none⟩) (by dsimp only; omega)).trans jpy; have kv := (hbb.cell (p := ⟨w.heap.size + 3, 0, none⟩) (by dsimp only; omega)).trans jv; have kw := (hbb.frozen (p := ⟨w.heap.size + 3, 0, none⟩) (by dsimp only; omega)).trans jw; clear hbb bx0 by0 bx1 by1 jpx jpy jv jw jc jf) | ((first | refine ⟨trivial, rfl, ?_⟩ | refine ⟨rfl, ?_⟩ | skip); gi_at_call 62; refine (CallsIn.inRound r (callsIn_wide.2 (impl_PointSide.calls 1 _ _ _ _ _ _ _ _ _ HSD.out))).mono ?_; rintro e w3 ⟨rfl, hbb⟩; have HS3 := Aside0.mk (HS2.out.trans (hbb.mono HS2.out.size)); have hz3 := hbb.size; have lx0 := (hbb.cell (p := ⟨B 0, 0, none⟩) (by dsimp only; omega)).trans kx0; have ly0 := (hbb.cell (p := ⟨B 0, 1, none⟩) (by dsimp only; omega)).trans ky0; have lx1 := (hbb.cell (p := ⟨B 1, 0, none⟩) (by dsimp only; omega)).trans kx1; have ly1 := (hbb.cell (p := ⟨B 1, 1, none⟩) (by dsimp only; omega)).trans ky1; have lv := (hbb.cell (p := ⟨w.heap.size + 3, 0, none⟩) (by dsimp only; omega)).trans kv; have lw := (hbb.frozen (p := ⟨w.heap.size + 3, 0, none⟩) (by dsimp only; omega)).trans kw; clear hbb kx0 ky0 kx1 ky1 kv kw kpx kpy))
          (first | done | exact FIN.out _ _ (KeepsFrom.of_below HS2.out) (HS2.out.mono (by omega)) kv kw (by rw [HBND.out, HFL.out]; rfl) | exact FIN.out _ _ (KeepsFrom.of_below HS3.out) (HS3.out.mono (by omega)) lv lw (by rw [HBND.out, HFL.out]; rfl) | exact FIN.out _ _ ((KeepsFrom.of_below HS3.out).trans ((KeepsOthers.setCell _ _ _).from _)) ((show Below (w.heap.size + 3) W w3 from HS3.out.mono (by omega)).setCell (p := ⟨w.heap.size + 3, 0, none⟩) (Nat.le_refl _) _) (World.cell?_setCell_same _ _ _ lv) (by rw [World.frozen?_setCell]; exact lw) (by rw [HBND.out, HFL.out]; exact (show wrap64 (-placeV l p k) = -placeV l p k from by have := HV.out; unfold wrap64; omega)))
      · have HF1 := Aside0.mk ((onPt_f (at_ l k) (nxt l k) p).trans (by rw [hq]))
        have HON := Aside0.mk (placeR_on hk (show onAt l p k = true from hq))
        clear hq
        gi_wp2_with ((first | refine ⟨trivial, rfl, ?_⟩ | refine ⟨rfl, ?_⟩ | skip); gi_at_call 79; refine (CallsIn.inRound r (callsIn_wide.2 (impl_PointOn.calls 1 _ _ _ _ _ _ true _ HF1.out))).mono ?_; rintro e w2 ⟨rfl, hb2⟩; have HS2 := Aside0.mk (HS.out.trans (hb2.mono HS.out.size)); have kc := (hb2.cell (p := ⟨w.heap.size + 2, 0, none⟩) (by dsimp only; omega)).trans jc; have kf := (hb2.frozen (p := ⟨w.heap.size + 2, 0, none⟩) (by dsimp only; omega)).trans jf; clear hb2)
        refine ⟨(KeepsFrom.of_below HS2.out).trans ((KeepsOthers.setCell _ _ _).from _), rfl, ⟨World.cell?_setCell_same _ _ _ kc, (hb0.trans ((hb.trans (HS2.out.mono (by omega))).mono (by omega))).setCell (p := ⟨w.heap.size + 2, 0, none⟩) (by dsimp only; omega) _⟩, HON.out⟩

end Go.Proofs.Ytgdhgncdpmalcaa.Ring
namespace Go.Proofs.Ytgdhgncdpmalcaa.Ring
open Go.RowKit Go.Shelf Go.Proofs.Ytgdhgncdpmalcaa.Q Go.Proofs.Ytgdhgncdpmalcaa.Drawn Go.Proofs.YtgdhgncdpmalcaaW.PrintWords Go.Proofs.YtgdhgncdpmalcaaW.PrintLast Go.Proofs.YtgdhgncdpmalcaaW.PrintMore
set_option linter.unusedVariables false
set_option linter.unusedSimpArgs false
attribute [local go_sem] Oper.semAt_some
set_option maxRecDepth 100000 in
set_option maxHeartbeats 4000000 in
theorem polyPlace_no (A0 : Option Addr) (c0 : Nat) (l0 : List Pt) (p : Pt) (w : World) (hr0 : Kd.C k32 w A0 l0.length l0) (hc0 : l0.length ≤ c0) (h : okS l0 = false) :
    Calls Try.prog 25 #[.slice A0 l0.length c0, .agg #[.int .i64 p.f0, .int .i64 p.f1]] w fun e w' => e = .returned (.tuple #[.int .i64 0, .bool false]) ∧ Below w.heap.size w w' := by
  have HR0 := Aside0.mk hr0
  have HC0 := Aside0.mk hc0
  have HX := Aside0.mk h
  clear hr0 hc0 h
  go_enter Try.func25, Try.ntmps25
  go_wp2_with (go_at_call 49; refine (simple_isnt A0 c0 l0 _ ?s1 HC0.out HX.out).mono ?_; (case s1 => exact qq65); rintro e w1 ⟨rfl, hb⟩; have HB := Aside0.mk (((Below.refl w.heap.size w).alloc (Nat.le_refl _) (.cells #[.int .i64 p.f0, .int .i64 p.f1] 32)).trans (hb.mono (by simp))); clear hb)
  go_ret2
  exact ⟨rfl, HB.out.alloc HB.out.size _⟩

set_option maxRecDepth 100000 in
set_option maxHeartbeats 4000000 in
theorem polyPlace_far (A0 : Option Addr) (c0 : Nat) (l0 : List Pt) (p : Pt) (w : World) (hr0 : Kd.C k32 w A0 l0.length l0) (hc0 : l0.length ≤ c0) (h : okS l0 = true) (hp : Pure.ptB p = false) :
    Calls Try.prog 25 #[.slice A0 l0.length c0, .agg #[.int .i64 p.f0, .int .i64 p.f1]] w fun e w' => e = .returned (.tuple #[.int .i64 0, .bool false]) ∧ Below w.heap.size w w' := by
  have HR0 := Aside0.mk hr0
  have HC0 := Aside0.mk hc0
  have HV := Aside0.mk ((Pure.impl_PtValid_eq p).trans (by rw [hp]))
  clear hp
  have HX := Aside0.mk h
  clear hr0 hc0 h
  go_enter Try.func25, Try.ntmps25
  go_wp2_with (first | (go_at_call 49; refine (simple_yes A0 c0 l0 _ ?s1 HC0.out HX.out).mono ?_; (case s1 => exact qq65); rintro e w1 ⟨bs, rfl, hR, hlo0, hb⟩; have HR := Aside0.mk hR; have HB := Aside0.mk (((Below.refl w.heap.size w).alloc (Nat.le_refl _) (.cells #[.int .i64 p.f0, .int .i64 p.f1] 32)).trans (hb.mono (by simp))); have hz : w.heap.size < w1.heap.size := qq60; have hz1 : ¬ w1.heap.size = w.heap.size := (by omega); have hz2 : ¬ w.heap.size = w1.heap.size := (by omega); have hb' := Below.mono hb (B' := w.heap.size + 1) (by simp); have z0 := (at_new hb' 0).1; have z1 := (at_new hb' 1).1; simp at z0 z1; clear hb'; clear hb hR hlo0) | (go_at_call 23; refine (impl_PointValid.calls _ _ false _ HV.out).mono ?_; rintro e w2 ⟨rfl, hb2⟩; have HB2 := Aside0.mk (HB.out.alloc HB.out.size (.cells #[.pointer (some ⟨bs 0, 0, none⟩), .int .i64 l0.length] 54) |>.trans (hb2.mono (by have := HB.out.size; simp; omega))); clear hb2))
  go_ret2
  exact ⟨rfl, HB2.out⟩

set_option maxRecDepth 100000 in
set_option maxHeartbeats 4000000 in
theorem polyPlace_yes (A0 : Option Addr) (c0 : Nat) (l0 : List Pt) (p : Pt) (w : World) (hr0 : Kd.C k32 w A0 l0.length l0) (hc0 : l0.length ≤ c0) (h : okS l0 = true) (hp : Pure.ptB p = true) :
    Calls Try.prog 25 #[.slice A0 l0.length c0, .agg #[.int .i64 p.f0, .int .i64 p.f1]] w fun e w' => e = .returned (.tuple #[.int .i64 (placeR l0 p), .bool true]) ∧ Below w.heap.size w w' := by
  have HR0 := Aside0.mk hr0
  have HC0 := Aside0.mk hc0
  have HV := Aside0.mk ((Pure.impl_PtValid_eq p).trans (by rw [hp]))
  clear hp
  have HX := Aside0.mk h
  clear hr0 hc0 h
  go_enter Try.func25, Try.ntmps25
  go_wp2_with (first | (go_at_call 49; refine (simple_yes A0 c0 l0 _ ?s1 HC0.out HX.out).mono ?_; (case s1 => exact qq65); rintro e w1 ⟨bs, rfl, hR, hlo0, hb⟩; have HR := Aside0.mk hR; have HB := Aside0.mk (((Below.refl w.heap.size w).alloc (Nat.le_refl _) (.cells #[.int .i64 p.f0, .int .i64 p.f1] 32)).trans (hb.mono (by simp))); have hz : w.heap.size < w1.heap.size := qq60; have hz1 : ¬ w1.heap.size = w.heap.size := (by omega); have hz2 : ¬ w.heap.size = w1.heap.size := (by omega); have hb' := Below.mono hb (B' := w.heap.size + 1) (by simp); have z0 := (at_new hb' 0).1; have z1 := (at_new hb' 1).1; simp at z0 z1; clear hb'; clear hb hR hlo0) | (go_at_call 23; refine (impl_PointValid.calls _ _ true _ HV.out).mono ?_; rintro e w2 ⟨rfl, hb2⟩; have hs2 : w1.heap.size + 1 ≤ w2.heap.size := qq84; have HB2 := Aside0.mk (HB.out.alloc HB.out.size (.cells #[.pointer (some ⟨bs 0, 0, none⟩), .int .i64 l0.length] 54) |>.trans (hb2.mono (by have := HB.out.size; simp; omega))); have hb1 : Below (w1.heap.size + 1) (w1.alloc (.cells #[.pointer (some ⟨bs 0, 0, none⟩), .int .i64 l0.length] 54)) w2 := hb2.mono (by simp); have v0 := (at_new hb1 0).1; have v1 := (at_new hb1 1).1; simp at v0 v1; have hb3 := ((Below.refl w1.heap.size w1).alloc (Nat.le_refl _) (.cells #[.pointer (some ⟨bs 0, 0, none⟩), .int .i64 l0.length] 54)).trans (hb1.mono (by omega)); have t0 := (hb3.cell (p := ⟨w.heap.size, 0, none⟩) hz).trans z0; have t1 := (hb3.cell (p := ⟨w.heap.size, 1, none⟩) hz).trans z1; have HR2 := Aside0.mk ((HR.out.below hb3).mono (show w1.heap.size ≤ w2.heap.size by omega)); clear hb2 hb1 hb3 z0 z1) | (go_at_call 56; refine (place_calls w2.heap.size bs l0 p w2 HR2.out (Nat.le_refl _)).mono ?_; rintro e w3 ⟨rfl, hb4⟩; have HB3 := Aside0.mk (HB2.out.trans (hb4.mono HB2.out.size)); clear hb4))
  go_ret2
  exact ⟨rfl, HB3.out⟩

end Go.Proofs.Ytgdhgncdpmalcaa.Ring
namespace Go.Proofs.Ytgdhgncdpmalcaa.Q
open Go.RowKit Go.Proofs.YtgdhgncdpmalcaaW.PrintWords Go.Proofs.YtgdhgncdpmalcaaW.PrintLast Go.Proofs.YtgdhgncdpmalcaaW.PrintMore
attribute [local go_sem] max2_int min2_int max_two min_two max_three min_three max_four min_four
set_option linter.unusedVariables false
set_option linter.unusedSimpArgs false

/-! ### impl_PolyPlace: function 25 -/
def impl_PolyPlace.f (l0 : List (S32)) (a1_0 : Int) (a1_1 : Int) : Option (Int × Bool) := if Go.Proofs.Ytgdhgncdpmalcaa.Ring.okS l0 && Go.Proofs.Ytgdhgncdpmalcaa.Pure.ptB ⟨a1_0, a1_1⟩ then some (Go.Proofs.Ytgdhgncdpmalcaa.Ring.placeR l0 ⟨a1_0, a1_1⟩, true) else some (0, false)
theorem impl_PolyPlace.calls (A0 : Option Addr) (c0 : Nat) (l0 : List (S32)) (a1_0 : Int) (a1_1 : Int) (r1 : Int) (r2 : Bool) (w : World) (hr0 : Kd.C k32 w A0 l0.length l0) (hc0 : l0.length ≤ c0) (h : impl_PolyPlace.f l0 a1_0 a1_1 = some (r1, r2)) :
    Calls Try.prog 25 #[.slice A0 l0.length c0, .agg #[.int .i64 a1_0, .int .i64 a1_1]] w fun e w' => e = .returned (.tuple #[.int .i64 r1, .bool r2]) ∧ Below w.heap.size w w' := by
  unfold impl_PolyPlace.f at h
  cases c : Go.Proofs.Ytgdhgncdpmalcaa.Ring.okS l0
  · rw [c, Bool.false_and, if_neg (by decide)] at h
    obtain ⟨rfl, rfl⟩ := Prod.mk.inj (Option.some.inj h)
    exact Go.Proofs.Ytgdhgncdpmalcaa.Ring.polyPlace_no A0 c0 l0 ⟨a1_0, a1_1⟩ w hr0 hc0 c
  · cases q : Go.Proofs.Ytgdhgncdpmalcaa.Pure.ptB ⟨a1_0, a1_1⟩
    · rw [c, q, Bool.true_and, if_neg (by decide)] at h
      obtain ⟨rfl, rfl⟩ := Prod.mk.inj (Option.some.inj h)
      exact Go.Proofs.Ytgdhgncdpmalcaa.Ring.polyPlace_far A0 c0 l0 ⟨a1_0, a1_1⟩ w hr0 hc0 c q
    · rw [c, q, Bool.true_and, if_pos rfl] at h
      obtain ⟨rfl, rfl⟩ := Prod.mk.inj (Option.some.inj h)
      exact Go.Proofs.Ytgdhgncdpmalcaa.Ring.polyPlace_yes A0 c0 l0 ⟨a1_0, a1_1⟩ w hr0 hc0 c q

end Go.Proofs.Ytgdhgncdpmalcaa.Q
namespace Go.Proofs.Ytgdhgncdpmalcaa.Q
open Go.RowKit Go.Proofs.YtgdhgncdpmalcaaW.PrintWords Go.Proofs.YtgdhgncdpmalcaaW.PrintLast Go.Proofs.YtgdhgncdpmalcaaW.PrintMore
attribute [local go_sem] max2_int min2_int max_two min_two max_three min_three max_four min_four
set_option linter.unusedVariables false
set_option linter.unusedSimpArgs false

/-- A state of type 81 at block g of W; what its slices lead to came in by w0. -/
def IsS81 (w0 W : World) (g : Nat) (f0 : List Int) (f1 : Int) : Prop := ∃ A0 c0, W.heap[g]? = some (.cells #[.slice A0 f0.length c0, .int .i64 f1] 81 (0, 0)) ∧ w0.heap.size ≤ g ∧ Kd.C (Kd.int .u8) w0 A0 f0.length f0
theorem IsS81.grown {w0 W : World} {g : Nat} {f0 : List Int} {f1 : Int} {W1 : World} {row : Option Nat} (h : IsS81 w0 W g f0 f1) (hw : W.grownBy W1 row) (hne : some g ≠ row) : IsS81 w0 W1 g f0 f1 := by
  obtain ⟨A0, c0, hb, hg, hr0⟩ := h
  exact ⟨A0, c0, blk_grown hb hw hne, hg, hr0⟩
theorem IsS81.below {w0 W : World} {g : Nat} {f0 : List Int} {f1 : Int} {W1 : World} (h : IsS81 w0 W g f0 f1) (hw : Below W.heap.size W W1) : IsS81 w0 W1 g f0 f1 := h.grown (grown_of_below hw none) (by simp)
theorem IsS81.alloc {w0 W : World} {g : Nat} {f0 : List Int} {f1 : Int} (h : IsS81 w0 W g f0 f1) (o : Obj) : IsS81 w0 (W.alloc o) g f0 f1 := h.below (below_alloc (Below.refl _ _) o)
theorem IsS81.drewN {w0 W : World} {g : Nat} {f0 : List Int} {f1 : Int} (h : IsS81 w0 W g f0 f1) (m : Nat) : IsS81 w0 (W.drewN m) g f0 f1 := h
theorem IsS81.drew {w0 W : World} {g : Nat} {f0 : List Int} {f1 : Int} (h : IsS81 w0 W g f0 f1) : IsS81 w0 W.drew g f0 f1 := h
theorem IsS81.apart {w0 W : World} {g : Nat} {f0 : List Int} {f1 : Int} {α : Type} {d : Kd α} {e : Nat} {base : Nat} {ok : Nat → Prop} {v : Value} {xs : List α} (h : IsS81 w0 W g f0 f1) (ho : d.R e W base ok v xs) (ht : ∀ q, q ∈ e :: d.E → q ≠ 81) : d.R e W base (fun k => ok k ∧ k ≠ g) v xs := by
  obtain ⟨A0, c0, hb, hg, hr0⟩ := h
  exact Kd.R_types ho hb ht
theorem IsS81.own_ne {w0 W : World} {g : Nat} {f0 : List Int} {f1 : Int} {α : Type} {d : Kd α} {e : Nat} {base : Nat} {ok : Nat → Prop} {v : Value} {xs : List α} (h : IsS81 w0 W g f0 f1) (ho : d.R e W base ok v xs) (ht : e ≠ 81) : some g ≠ v.ownBlock := by
  obtain ⟨A0, c0, hb, hg, hr0⟩ := h
  exact Kd.R_ne ho hb ht
theorem IsS81.own_neQ {w0 W : World} {g : Nat} {f0 : List Int} {f1 : Int} {α : Type} {d : Kd α} {e : Nat} {base : Nat} {ok : Nat → Prop} {v : Value} {xs : List α} (h : IsS81 w0 W g f0 f1) (ho : d.Q e W base ok v xs) (ht : e ≠ 81) : some g ≠ v.ownBlock := by
  obtain ⟨A0, c0, hb, hg, hr0⟩ := h
  exact Kd.Q_ne ho hb ht
theorem IsS81.lt {w0 W : World} {g : Nat} {f0 : List Int} {f1 : Int} (h : IsS81 w0 W g f0 f1) : g < W.heap.size := by
  obtain ⟨A0, c0, hb, hg, hr0⟩ := h
  exact blk_lt hb
theorem IsS81.ge {w0 W : World} {g : Nat} {f0 : List Int} {f1 : Int} (h : IsS81 w0 W g f0 f1) : w0.heap.size ≤ g := by
  obtain ⟨A0, c0, hb, hg, hr0⟩ := h
  exact hg
theorem IsS81.far {w0 W : World} {g : Nat} {f0 : List Int} {f1 : Int} {p : Addr} (h : IsS81 w0 W g f0 f1) (hne : g ≠ p.block) (u : Value) : IsS81 w0 (W.setCell p u) g f0 f1 := by
  obtain ⟨A0, c0, hb, hg, hr0⟩ := h
  exact ⟨A0, c0, blk_far hb hne u, hg, hr0⟩
theorem cellS81_0 {W : World} {g : Nat} {A0 : Option Addr} {c0 : Nat} {f0 : List Int} {f1 : Int} (h : W.heap[g]? = some (.cells #[.slice A0 f0.length c0, .int .i64 f1] 81 (0, 0))) : W.cell? ⟨g, 0, none⟩ = some (.slice A0 f0.length c0) := (blk_cell h 0).trans rfl
theorem cellS81_1 {W : World} {g : Nat} {A0 : Option Addr} {c0 : Nat} {f0 : List Int} {f1 : Int} (h : W.heap[g]? = some (.cells #[.slice A0 f0.length c0, .int .i64 f1] 81 (0, 0))) : W.cell? ⟨g, 1, none⟩ = some (.int .i64 f1) := (blk_cell h 1).trans rfl
theorem IsS81.set_1 {w0 W : World} {g : Nat} {f0 : List Int} {f1 : Int} (h : IsS81 w0 W g f0 f1) (x : Int) : IsS81 w0 (W.setCell ⟨g, 1, none⟩ (.int .i64 x)) g f0 x := by
  obtain ⟨A0, c0, hb, hg, hr0⟩ := h
  exact ⟨A0, c0, by simpa using blk_set hb 1 (.int .i64 x), hg, hr0⟩
/-! ### spec_l6Rd_pick: function 48 -/
def spec_l6Rd_pick.j0 : Nat → Int → Bool → List Int → Int → Option (Int × Int)
  | 0, _, _, _, _ => none
  | k + 1, x1, x24, x1000, x1001 => if x24 = true then (some (0, x1001)) else (if (wrap64 (x1001 - 1)) < (x1000.length : Int) then (if 0 ≤ (wrap64 (x1001 - 1)) then (if x1 = 0 then (none) else (some (Int.tmod (wrap64 (rd x1000 (wrap64 (x1001 - 1)))) x1, x1001))) else (none)) else (if (x1000.length : Int) = 0 then (none) else (if 0 ≤ (Int.tmod (wrap64 (x1001 - 1)) (x1000.length : Int)) then (if (Int.tmod (wrap64 (x1001 - 1)) (x1000.length : Int)) < (x1000.length : Int) then (if 0 ≤ (Int.tmod (wrap64 ((wrap64 ((wrap64 (x1001 - 1)) * 7)) + 3)) (x1000.length : Int)) then (if (Int.tmod (wrap64 ((wrap64 ((wrap64 (x1001 - 1)) * 7)) + 3)) (x1000.length : Int)) < (x1000.length : Int) then (if x1 = 0 then (none) else (some (Int.tmod (Go.bits .xor .i64 (wrap64 ((wrap64 ((wrap64 ((wrap64 ((wrap64 (rd x1000 (Int.tmod (wrap64 (x1001 - 1)) (x1000.length : Int)))) * 131)) + (wrap64 ((wrap64 (rd x1000 (Int.tmod (wrap64 ((wrap64 ((wrap64 (x1001 - 1)) * 7)) + 3)) (x1000.length : Int)))) * 1117)))) + (wrap64 ((wrap64 (x1001 - 1)) * 29)))) + (wrap64 ((wrap64 (Int.tdiv (wrap64 (x1001 - 1)) (x1000.length : Int))) * 53)))) (wrap64 (Int.tdiv (wrap64 ((wrap64 ((wrap64 ((wrap64 ((wrap64 (rd x1000 (Int.tmod (wrap64 (x1001 - 1)) (x1000.length : Int)))) * 131)) + (wrap64 ((wrap64 (rd x1000 (Int.tmod (wrap64 ((wrap64 ((wrap64 (x1001 - 1)) * 7)) + 3)) (x1000.length : Int)))) * 1117)))) + (wrap64 ((wrap64 (x1001 - 1)) * 29)))) + (wrap64 ((wrap64 (Int.tdiv (wrap64 (x1001 - 1)) (x1000.length : Int))) * 53)))) 64))) x1, x1001))) else (none)) else (none)) else (none)) else (none))))
def spec_l6Rd_pick.f (k : Nat) (s0_0 : List Int) (s0_1 : Int) (a1 : Int) : Option (Int × Int) := if a1 < 1 then (spec_l6Rd_pick.j0 k a1 true s0_0 (wrap64 (s0_1 + 1))) else (spec_l6Rd_pick.j0 k a1 ((s0_0.length : Int) == 0) s0_0 (wrap64 (s0_1 + 1)))
set_option maxHeartbeats 8000000 in
set_option maxRecDepth 100000 in
theorem spec_l6Rd_pick.calls (k : Nat) (g : Nat) (s0_0 : List Int) (s0_1 : Int) (a1 : Int) (r1 : Int) (r2 : Int) (w0 w : World) (hI : IsS81 w0 w g s0_0 s0_1) (hB : Below w0.heap.size w0 w) (h : spec_l6Rd_pick.f k s0_0 s0_1 a1 = some (r1, r2)) :
    Calls Try.prog 48 #[.pointer (some ⟨g, 0, none⟩), .int .i64 a1] w fun e w' => e = .returned (.int .i64 r1) ∧ IsS81 w0 w' g s0_0 r2 ∧ Below w0.heap.size w0 w' ∧ KeepBut w w' g none := by
  have HI0 := Aside0.mk hI
  have HK := Aside0.mk (KeepBut.refl w g none)
  have HL := Aside0.mk hB.size
  clear hI
  have HW0 := Aside0.mk hB.size
  have HB := Aside0.mk hB
  clear hB
  have H : (if a1 < 1 then (spec_l6Rd_pick.j0 k a1 true s0_0 (wrap64 (s0_1 + 1))) else (spec_l6Rd_pick.j0 k a1 ((s0_0.length : Int) == 0) s0_0 (wrap64 (s0_1 + 1)))) = some (r1, r2) := h
  clear h
  have HC3 := Aside0.mk H
  clear H
  obtain ⟨ASz4_0, cSz4_0, HGz4, hgz4, HSz4_0⟩ := HI0.out
  have hcz4_0 := cellS81_0 HGz4
  have hcz4_1 := cellS81_1 HGz4
  have hfz4_1 := blk_frozen HGz4 1
  clear HGz4 hgz4
  go_enter Try.func48, Try.ntmps48
  go_upto_region 2 with (fail)
  repeat (go_quiet (fail); go_upto_region 2 with (fail))
  go_cut [24] (fun v24 wc => ∃ (kq : Nat) (x24_2 : Bool), v24 = .bool x24_2 ∧ Aside0 (spec_l6Rd_pick.j0 kq a1 x24_2 s0_0 (wrap64 (s0_1 + 1)) = some (r1, r2)) ∧ Aside0 (kq ≤ k) ∧ Aside0 (IsS81 w0 wc g s0_0 (wrap64 (s0_1 + 1))) ∧ Aside0 (KeepBut w wc g none) ∧ Aside0 (Below w0.heap.size w0 wc))
  case first =>
    have H := HC3.out
    clear HC3
    by_cases c5 : a1 < 1
    · rw [if_pos c5] at H
      have c5b0 : decide (a1 < 1) = true := decide_eq_true c5
      clear c5
      (first | rw [c5b0] | (simp only [i64_w, i32_w]; rw [c5b0]) | skip)
      have H' := Aside0.mk H
      clear H
      go_wp2
      repeat (go_quiet (fail); try go_wp2)
      go_meet
      case rel => exact ⟨_, (true), qq24, H', ⟨qq46⟩, ⟨qq7⟩, ⟨qq4⟩, ⟨qq5 HB.out HI0.out⟩⟩
    · rw [if_neg c5] at H
      have c5b0 : decide (a1 < 1) = false := decide_eq_false c5
      clear c5
      (first | rw [c5b0] | (simp only [i64_w, i32_w]; rw [c5b0]) | skip)
      have H' := Aside0.mk H
      clear H
      obtain ⟨ASz6_0, cSz6_0, HGz6, hgz6, HSz6_0⟩ := HI0.out
      have hcz6_0 := cellS81_0 HGz6
      have hcz6_1 := cellS81_1 HGz6
      have hfz6_1 := blk_frozen HGz6 1
      clear HGz6 hgz6
      go_wp2
      repeat (go_quiet (fail); try go_wp2)
      go_meet
      case rel => exact ⟨_, (((s0_0.length : Int) == 0)), qq24, H', ⟨qq46⟩, ⟨qq7⟩, ⟨qq4⟩, ⟨qq5 HB.out HI0.out⟩⟩
  case rest =>
    clear HC3
    try clear p2
    try clear c4
    try clear c5
    try clear c5b0
    try clear p6
    try clear hcz4_0
    try clear hcz4_1
    try clear hcz6_0
    try clear hcz6_1
    try clear hfz4_1
    try clear hfz6_1
    obtain ⟨kq, x24_2, rfl, HA, HJ2, HI0, HK, HB⟩ := hcut
    cases kq with
    | zero => exact absurd HA.out (by simp [spec_l6Rd_pick.j0])
    | succ kj2 =>
      have H := HA.out
      clear HA
      simp only [spec_l6Rd_pick.j0] at H
      by_cases c7 : x24_2 = true
      · subst c7
        have H1 : (some (0, (wrap64 (s0_1 + 1)))) = some (r1, r2) := by rw [if_pos rfl] at H; exact H
        clear H
        have H := H1
        clear H1
        simp only [Option.some.injEq, Prod.mk.injEq] at H
        obtain ⟨rfl, rfl⟩ := H
        go_wp2
        repeat (go_quiet (fail); try go_wp2)
        go_ret
        exact ⟨qq13, qq7, qq5 HB.out HI0.out, qq4⟩
      · replace c7 := Bool.eq_false_iff.mpr c7
        subst c7
        have H1 : (if (wrap64 ((wrap64 (s0_1 + 1)) - 1)) < (s0_0.length : Int) then (if 0 ≤ (wrap64 ((wrap64 (s0_1 + 1)) - 1)) then (if a1 = 0 then (none) else (some (Int.tmod (wrap64 (rd s0_0 (wrap64 ((wrap64 (s0_1 + 1)) - 1)))) a1, (wrap64 (s0_1 + 1))))) else (none)) else (if (s0_0.length : Int) = 0 then (none) else (if 0 ≤ (Int.tmod (wrap64 ((wrap64 (s0_1 + 1)) - 1)) (s0_0.length : Int)) then (if (Int.tmod (wrap64 ((wrap64 (s0_1 + 1)) - 1)) (s0_0.length : Int)) < (s0_0.length : Int) then (if 0 ≤ (Int.tmod (wrap64 ((wrap64 ((wrap64 ((wrap64 (s0_1 + 1)) - 1)) * 7)) + 3)) (s0_0.length : Int)) then (if (Int.tmod (wrap64 ((wrap64 ((wrap64 ((wrap64 (s0_1 + 1)) - 1)) * 7)) + 3)) (s0_0.length : Int)) < (s0_0.length : Int) then (if a1 = 0 then (none) else (some (Int.tmod (Go.bits .xor .i64 (wrap64 ((wrap64 ((wrap64 ((wrap64 ((wrap64 (rd s0_0 (Int.tmod (wrap64 ((wrap64 (s0_1 + 1)) - 1)) (s0_0.length : Int)))) * 131)) + (wrap64 ((wrap64 (rd s0_0 (Int.tmod (wrap64 ((wrap64 ((wrap64 ((wrap64 (s0_1 + 1)) - 1)) * 7)) + 3)) (s0_0.length : Int)))) * 1117)))) + (wrap64 ((wrap64 ((wrap64 (s0_1 + 1)) - 1)) * 29)))) + (wrap64 ((wrap64 (Int.tdiv (wrap64 ((wrap64 (s0_1 + 1)) - 1)) (s0_0.length : Int))) * 53)))) (wrap64 (Int.tdiv (wrap64 ((wrap64 ((wrap64 ((wrap64 ((wrap64 (rd s0_0 (Int.tmod (wrap64 ((wrap64 (s0_1 + 1)) - 1)) (s0_0.length : Int)))) * 131)) + (wrap64 ((wrap64 (rd s0_0 (Int.tmod (wrap64 ((wrap64 ((wrap64 ((wrap64 (s0_1 + 1)) - 1)) * 7)) + 3)) (s0_0.length : Int)))) * 1117)))) + (wrap64 ((wrap64 ((wrap64 (s0_1 + 1)) - 1)) * 29)))) + (wrap64 ((wrap64 (Int.tdiv (wrap64 ((wrap64 (s0_1 + 1)) - 1)) (s0_0.length : Int))) * 53)))) 64))) a1, (wrap64 (s0_1 + 1))))) else (none)) else (none)) else (none)) else (none)))) = some (r1, r2) := by rw [if_neg (show ¬ (false = true) by decide)] at H; exact H
        clear H
        have H := H1
        clear H1
        by_cases c8 : (wrap64 ((wrap64 (s0_1 + 1)) - 1)) < (s0_0.length : Int)
        · rw [if_pos c8] at H
          have c8b0 : decide ((wrap64 ((wrap64 (s0_1 + 1)) - 1)) < (s0_0.length : Int)) = true := decide_eq_true c8
          clear c8
          obtain ⟨ji9, hji9⟩ : ∃ j_ : Int, (wrap64 ((wrap64 (s0_1 + 1)) - 1)) = j_ := ⟨_, rfl⟩
          replace H : (if 0 ≤ (ji9) then (if a1 = 0 then (none) else (some (Int.tmod (wrap64 (rd s0_0 (ji9))) a1, (wrap64 (s0_1 + 1))))) else (none)) = some (r1, r2) := by first | (rw [hji9] at H; exact H) | (simp only [hji9] at H ⊢; exact H)
          (try rw [hji9] at c8b0)
          have hji9w : (IntKind.i64.wrap ((wrap64 (s0_1 + 1)) - 1)) = ji9 := (i64_w _).trans hji9
          by_cases c10 : 0 ≤ (ji9)
          · rw [if_pos c10] at H
            have c10b0 : decide (0 ≤ (ji9)) = true := decide_eq_true c10
            clear c10
            by_cases c11 : a1 = 0
            · rw [if_pos c11] at H
              exact absurd H (by simp)
            · rw [if_neg c11] at H
              have c11b0 : (a1 == 0) = false := beq_eq_false_iff_ne.mpr c11
              have c11b1 : (a1 != 0) = true := bne_iff_ne.mpr c11
              simp only [Option.some.injEq, Prod.mk.injEq] at H
              obtain ⟨rfl, rfl⟩ := H
              obtain ⟨ASz12_0, cSz12_0, HGz12, hgz12, HSz12_0⟩ := HI0.out
              have hcz12_0 := cellS81_0 HGz12
              have hcz12_1 := cellS81_1 HGz12
              have hfz12_1 := blk_frozen HGz12 1
              clear HGz12 hgz12
              have p101 : 0 ≤ ((ji9) : Int) := of_decide_eq_true qq10
              have q101 : (ji9) < (s0_0.length : Int) := of_decide_eq_true qq10
              obtain ⟨ad101, e101, hx101_0⟩ := Kd.at_int HSz12_0 (ji9) p101 q101
              cases e101
              replace hx101_0 := pw_cell_below HB.out hx101_0
              replace p101 := eq_true p101
              replace q101 := eq_true q101
              go_wp2
              repeat (go_quiet (fail); try go_wp2)
              go_ret
              exact ⟨by first | rfl | (simp [errW_none, errW_some] <;> rfl) | (simp only [← hji9]; first | rfl | (simp [errW_none, errW_some] <;> rfl)) | (simp [*, errW_none, errW_some] <;> rfl), qq7, qq5 HB.out HI0.out, qq4⟩
          · rw [if_neg c10] at H
            exact absurd H (by simp)
        · rw [if_neg c8] at H
          have c8b0 : decide ((wrap64 ((wrap64 (s0_1 + 1)) - 1)) < (s0_0.length : Int)) = false := decide_eq_false c8
          clear c8
          by_cases c13 : (s0_0.length : Int) = 0
          · rw [if_pos c13] at H
            exact absurd H (by simp)
          · rw [if_neg c13] at H
            have c13b0 : ((s0_0.length : Int) == 0) = false := beq_eq_false_iff_ne.mpr c13
            have c13b1 : ((s0_0.length : Int) != 0) = true := bne_iff_ne.mpr c13
            have c13b2 : ¬ (s0_0 = []) := fun h_ => c13 (by rw [h_]; rfl)
            obtain ⟨ji14, hji14⟩ : ∃ j_ : Int, (Int.tmod (wrap64 ((wrap64 (s0_1 + 1)) - 1)) (s0_0.length : Int)) = j_ := ⟨_, rfl⟩
            replace H : (if 0 ≤ (ji14) then (if (ji14) < (s0_0.length : Int) then (if 0 ≤ (Int.tmod (wrap64 ((wrap64 ((wrap64 ((wrap64 (s0_1 + 1)) - 1)) * 7)) + 3)) (s0_0.length : Int)) then (if (Int.tmod (wrap64 ((wrap64 ((wrap64 ((wrap64 (s0_1 + 1)) - 1)) * 7)) + 3)) (s0_0.length : Int)) < (s0_0.length : Int) then (if a1 = 0 then (none) else (some (Int.tmod (Go.bits .xor .i64 (wrap64 ((wrap64 ((wrap64 ((wrap64 ((wrap64 (rd s0_0 (ji14))) * 131)) + (wrap64 ((wrap64 (rd s0_0 (Int.tmod (wrap64 ((wrap64 ((wrap64 ((wrap64 (s0_1 + 1)) - 1)) * 7)) + 3)) (s0_0.length : Int)))) * 1117)))) + (wrap64 ((wrap64 ((wrap64 (s0_1 + 1)) - 1)) * 29)))) + (wrap64 ((wrap64 (Int.tdiv (wrap64 ((wrap64 (s0_1 + 1)) - 1)) (s0_0.length : Int))) * 53)))) (wrap64 (Int.tdiv (wrap64 ((wrap64 ((wrap64 ((wrap64 ((wrap64 (rd s0_0 (ji14))) * 131)) + (wrap64 ((wrap64 (rd s0_0 (Int.tmod (wrap64 ((wrap64 ((wrap64 ((wrap64 (s0_1 + 1)) - 1)) * 7)) + 3)) (s0_0.length : Int)))) * 1117)))) + (wrap64 ((wrap64 ((wrap64 (s0_1 + 1)) - 1)) * 29)))) + (wrap64 ((wrap64 (Int.tdiv (wrap64 ((wrap64 (s0_1 + 1)) - 1)) (s0_0.length : Int))) * 53)))) 64))) a1, (wrap64 (s0_1 + 1))))) else (none)) else (none)) else (none)) else (none)) = some (r1, r2) := by first | (rw [hji14] at H; exact H) | (simp only [hji14] at H ⊢; exact H)
            by_cases c15 : 0 ≤ (ji14)
            · rw [if_pos c15] at H
              have c15b0 : decide (0 ≤ (ji14)) = true := decide_eq_true c15
              clear c15
              by_cases c16 : (ji14) < (s0_0.length : Int)
              · rw [if_pos c16] at H
                have c16b0 : decide ((ji14) < (s0_0.length : Int)) = true := decide_eq_true c16
                clear c16
                obtain ⟨ji17, hji17⟩ : ∃ j_ : Int, (Int.tmod (wrap64 ((wrap64 ((wrap64 ((wrap64 (s0_1 + 1)) - 1)) * 7)) + 3)) (s0_0.length : Int)) = j_ := ⟨_, rfl⟩
                replace H : (if 0 ≤ (ji17) then (if (ji17) < (s0_0.length : Int) then (if a1 = 0 then (none) else (some (Int.tmod (Go.bits .xor .i64 (wrap64 ((wrap64 ((wrap64 ((wrap64 ((wrap64 (rd s0_0 (ji14))) * 131)) + (wrap64 ((wrap64 (rd s0_0 (ji17))) * 1117)))) + (wrap64 ((wrap64 ((wrap64 (s0_1 + 1)) - 1)) * 29)))) + (wrap64 ((wrap64 (Int.tdiv (wrap64 ((wrap64 (s0_1 + 1)) - 1)) (s0_0.length : Int))) * 53)))) (wrap64 (Int.tdiv (wrap64 ((wrap64 ((wrap64 ((wrap64 ((wrap64 (rd s0_0 (ji14))) * 131)) + (wrap64 ((wrap64 (rd s0_0 (ji17))) * 1117)))) + (wrap64 ((wrap64 ((wrap64 (s0_1 + 1)) - 1)) * 29)))) + (wrap64 ((wrap64 (Int.tdiv (wrap64 ((wrap64 (s0_1 + 1)) - 1)) (s0_0.length : Int))) * 53)))) 64))) a1, (wrap64 (s0_1 + 1))))) else (none)) else (none)) = some (r1, r2) := by first | (rw [hji17] at H; exact H) | (simp only [hji17] at H ⊢; exact H)
                by_cases c18 : 0 ≤ (ji17)
                · rw [if_pos c18] at H
                  have c18b0 : decide (0 ≤ (ji17)) = true := decide_eq_true c18
                  clear c18
                  by_cases c19 : (ji17) < (s0_0.length : Int)
                  · rw [if_pos c19] at H
                    have c19b0 : decide ((ji17) < (s0_0.length : Int)) = true := decide_eq_true c19
                    clear c19
                    by_cases c20 : a1 = 0
                    · rw [if_pos c20] at H
                      exact absurd H (by simp)
                    · rw [if_neg c20] at H
                      have c20b0 : (a1 == 0) = false := beq_eq_false_iff_ne.mpr c20
                      have c20b1 : (a1 != 0) = true := bne_iff_ne.mpr c20
                      simp only [Option.some.injEq, Prod.mk.injEq] at H
                      obtain ⟨rfl, rfl⟩ := H
                      obtain ⟨ASz21_0, cSz21_0, HGz21, hgz21, HSz21_0⟩ := HI0.out
                      have hcz21_0 := cellS81_0 HGz21
                      have hcz21_1 := cellS81_1 HGz21
                      have hfz21_1 := blk_frozen HGz21 1
                      clear HGz21 hgz21
                      have p102 : 0 ≤ ((ji14) : Int) := of_decide_eq_true qq10
                      have q102 : (ji14) < (s0_0.length : Int) := of_decide_eq_true qq10
                      obtain ⟨ad102, e102, hx102_0⟩ := Kd.at_int HSz21_0 (ji14) p102 q102
                      cases e102
                      replace hx102_0 := pw_cell_below HB.out hx102_0
                      replace p102 := eq_true p102
                      replace q102 := eq_true q102
                      have p103 : 0 ≤ ((ji17) : Int) := of_decide_eq_true qq10
                      have q103 : (ji17) < (s0_0.length : Int) := of_decide_eq_true qq10
                      obtain ⟨ad103, e103, hx103_0⟩ := Kd.at_int HSz21_0 (ji17) p103 q103
                      obtain rfl : ad102 = ad103 := (by injection e103)
                      replace hx103_0 := pw_cell_below HB.out hx103_0
                      replace p103 := eq_true p103
                      replace q103 := eq_true q103
                      go_wp2
                      repeat (go_quiet (fail); try go_wp2)
                      go_ret
                      exact ⟨by first | rfl | (simp [errW_none, errW_some] <;> rfl) | (simp only [← hji14, ← hji17]; first | rfl | (simp [errW_none, errW_some] <;> rfl)) | (simp [*, errW_none, errW_some] <;> rfl), qq7, qq5 HB.out HI0.out, qq4⟩
                  · rw [if_neg c19] at H
                    exact absurd H (by simp)
                · rw [if_neg c18] at H
                  exact absurd H (by simp)
              · rw [if_neg c16] at H
                exact absurd H (by simp)
            · rw [if_neg c15] at H
              exact absurd H (by simp)

end Go.Proofs.Ytgdhgncdpmalcaa.Q
namespace Go.Proofs.Ytgdhgncdpmalcaa.Q
open Go.RowKit Go.Proofs.YtgdhgncdpmalcaaW.PrintWords Go.Proofs.YtgdhgncdpmalcaaW.PrintLast Go.Proofs.YtgdhgncdpmalcaaW.PrintMore
attribute [local go_sem] max2_int min2_int max_two min_two max_three min_three max_four min_four
set_option linter.unusedVariables false
set_option linter.unusedSimpArgs false

/-! ### spec_l92Box: function 59 -/
def spec_l92Box.j0 : Nat → Int → Int → List (S32) → Bool → List Int → Int → Option ((List (S32)) × Int)
  | 0, _, _, _, _, _, _ => none
  | k + 1, x3, x4, x7, x47, x1000, x1001 => if x47 = true then ((some (([(⟨x3, x4⟩ : S32), (⟨wrap64 (x3 + 1), x4⟩ : S32)] : List (S32)) : List (S32))).bind fun y135 => (if 1 ≤ (x7.length : Int) then ((some (x7.drop 1 : List (S32))).bind fun y138 => (if y135.length + y138.length < 8796093022208 then ((some (y135 ++ y138 : List (S32))).bind fun y142 => ((spec_l6Rd_pick.f k x1000 x1001 3).bind fun bt145 => (if bt145.1 = 0 then (if 1 ≤ y142.length ∧ y142.length ≤ 100 then (some (y142.drop 1 ++ [rd_T32 y142 0], bt145.2)) else none) else (some (y142, bt145.2))))) else (none))) else (none))) else ((spec_l6Rd_pick.f k x1000 x1001 3).bind fun bt147 => (if bt147.1 = 0 then (if 1 ≤ x7.length ∧ x7.length ≤ 100 then (some (x7.drop 1 ++ [rd_T32 x7 0], bt147.2)) else none) else (some (x7, bt147.2))))
def spec_l92Box.f (k : Nat) (s0_0 : List Int) (s0_1 : Int) : Option ((List (S32)) × Int) := (spec_l6Rd_pick.f k s0_0 s0_1 5).bind fun bt122 => ((spec_l6Rd_pick.f k s0_0 bt122.2 5).bind fun bt124 => ((spec_l6Rd_pick.f k s0_0 bt124.2 5).bind fun bt126 => ((spec_l6Rd_pick.f k s0_0 bt126.2 5).bind fun bt128 => ((some (([(⟨wrap64 (bt122.1 - 2), wrap64 (bt124.1 - 2)⟩ : S32), (⟨wrap64 ((wrap64 (bt122.1 - 2)) + (wrap64 (1 + bt126.1))), wrap64 (bt124.1 - 2)⟩ : S32), (⟨wrap64 ((wrap64 (bt122.1 - 2)) + (wrap64 (1 + bt126.1))), wrap64 ((wrap64 (bt124.1 - 2)) + (wrap64 (1 + bt128.1)))⟩ : S32), (⟨wrap64 (bt122.1 - 2), wrap64 ((wrap64 (bt124.1 - 2)) + (wrap64 (1 + bt128.1)))⟩ : S32)] : List (S32)) : List (S32))).bind fun y130 => (if (wrap64 (1 + bt126.1)) > 1 then ((spec_l6Rd_pick.f k s0_0 bt128.2 2).bind fun bt133 => (spec_l92Box.j0 k (wrap64 (bt122.1 - 2)) (wrap64 (bt124.1 - 2)) y130 (bt133.1 == 0) s0_0 bt133.2)) else (spec_l92Box.j0 k (wrap64 (bt122.1 - 2)) (wrap64 (bt124.1 - 2)) y130 false s0_0 bt128.2))))))
set_option maxHeartbeats 8000000 in
set_option maxRecDepth 100000 in
theorem spec_l92Box.calls (k : Nat) (g : Nat) (s0_0 : List Int) (s0_1 : Int) (r1 : List (S32)) (r2 : Int) (w0 w : World) (hI : IsS81 w0 w g s0_0 s0_1) (hB : Below w0.heap.size w0 w) (h : spec_l92Box.f k s0_0 s0_1 = some (r1, r2)) :
    Calls Try.prog 59 #[.pointer (some ⟨g, 0, none⟩)] w fun e w' => ∃ v0_ : Value, e = .returned (v0_) ∧ Kd.Q k32 32 w' w.heap.size (fun _ => True) v0_ r1 ∧ IsS81 w0 w' g s0_0 r2 ∧ Below w0.heap.size w0 w' ∧ KeepBut w w' g none := by
  have hu32 := Try.underlying32
  have HI0 := Aside0.mk hI
  have HK := Aside0.mk (KeepBut.refl w g none)
  have HL := Aside0.mk hB.size
  clear hI
  have HW0 := Aside0.mk hB.size
  have HB := Aside0.mk hB
  clear hB
  have H : ((spec_l6Rd_pick.f k s0_0 s0_1 5).bind fun bt122 => ((spec_l6Rd_pick.f k s0_0 bt122.2 5).bind fun bt124 => ((spec_l6Rd_pick.f k s0_0 bt124.2 5).bind fun bt126 => ((spec_l6Rd_pick.f k s0_0 bt126.2 5).bind fun bt128 => ((some (([(⟨wrap64 (bt122.1 - 2), wrap64 (bt124.1 - 2)⟩ : S32), (⟨wrap64 ((wrap64 (bt122.1 - 2)) + (wrap64 (1 + bt126.1))), wrap64 (bt124.1 - 2)⟩ : S32), (⟨wrap64 ((wrap64 (bt122.1 - 2)) + (wrap64 (1 + bt126.1))), wrap64 ((wrap64 (bt124.1 - 2)) + (wrap64 (1 + bt128.1)))⟩ : S32), (⟨wrap64 (bt122.1 - 2), wrap64 ((wrap64 (bt124.1 - 2)) + (wrap64 (1 + bt128.1)))⟩ : S32)] : List (S32)) : List (S32))).bind fun y130 => (if (wrap64 (1 + bt126.1)) > 1 then ((spec_l6Rd_pick.f k s0_0 bt128.2 2).bind fun bt133 => (spec_l92Box.j0 k (wrap64 (bt122.1 - 2)) (wrap64 (bt124.1 - 2)) y130 (bt133.1 == 0) s0_0 bt133.2)) else (spec_l92Box.j0 k (wrap64 (bt122.1 - 2)) (wrap64 (bt124.1 - 2)) y130 false s0_0 bt128.2))))))) = some (r1, r2) := h
  clear h
  replace H := Option.bind_eq_some_iff.mp H
  obtain ⟨⟨t122, t123⟩, A20, H⟩ := H
  replace H : ((spec_l6Rd_pick.f k s0_0 t123 5).bind fun bt124 => ((spec_l6Rd_pick.f k s0_0 bt124.2 5).bind fun bt126 => ((spec_l6Rd_pick.f k s0_0 bt126.2 5).bind fun bt128 => ((some (([(⟨wrap64 (t122 - 2), wrap64 (bt124.1 - 2)⟩ : S32), (⟨wrap64 ((wrap64 (t122 - 2)) + (wrap64 (1 + bt126.1))), wrap64 (bt124.1 - 2)⟩ : S32), (⟨wrap64 ((wrap64 (t122 - 2)) + (wrap64 (1 + bt126.1))), wrap64 ((wrap64 (bt124.1 - 2)) + (wrap64 (1 + bt128.1)))⟩ : S32), (⟨wrap64 (t122 - 2), wrap64 ((wrap64 (bt124.1 - 2)) + (wrap64 (1 + bt128.1)))⟩ : S32)] : List (S32)) : List (S32))).bind fun y130 => (if (wrap64 (1 + bt126.1)) > 1 then ((spec_l6Rd_pick.f k s0_0 bt128.2 2).bind fun bt133 => (spec_l92Box.j0 k (wrap64 (t122 - 2)) (wrap64 (bt124.1 - 2)) y130 (bt133.1 == 0) s0_0 bt133.2)) else (spec_l92Box.j0 k (wrap64 (t122 - 2)) (wrap64 (bt124.1 - 2)) y130 false s0_0 bt128.2)))))) = some (r1, r2) := H
  have A2 := Aside0.mk A20
  clear A20
  replace H := Option.bind_eq_some_iff.mp H
  obtain ⟨⟨t124, t125⟩, A30, H⟩ := H
  replace H : ((spec_l6Rd_pick.f k s0_0 t125 5).bind fun bt126 => ((spec_l6Rd_pick.f k s0_0 bt126.2 5).bind fun bt128 => ((some (([(⟨wrap64 (t122 - 2), wrap64 (t124 - 2)⟩ : S32), (⟨wrap64 ((wrap64 (t122 - 2)) + (wrap64 (1 + bt126.1))), wrap64 (t124 - 2)⟩ : S32), (⟨wrap64 ((wrap64 (t122 - 2)) + (wrap64 (1 + bt126.1))), wrap64 ((wrap64 (t124 - 2)) + (wrap64 (1 + bt128.1)))⟩ : S32), (⟨wrap64 (t122 - 2), wrap64 ((wrap64 (t124 - 2)) + (wrap64 (1 + bt128.1)))⟩ : S32)] : List (S32)) : List (S32))).bind fun y130 => (if (wrap64 (1 + bt126.1)) > 1 then ((spec_l6Rd_pick.f k s0_0 bt128.2 2).bind fun bt133 => (spec_l92Box.j0 k (wrap64 (t122 - 2)) (wrap64 (t124 - 2)) y130 (bt133.1 == 0) s0_0 bt133.2)) else (spec_l92Box.j0 k (wrap64 (t122 - 2)) (wrap64 (t124 - 2)) y130 false s0_0 bt128.2))))) = some (r1, r2) := H
  have A3 := Aside0.mk A30
  clear A30
  replace H := Option.bind_eq_some_iff.mp H
  obtain ⟨⟨t126, t127⟩, A40, H⟩ := H
  replace H : ((spec_l6Rd_pick.f k s0_0 t127 5).bind fun bt128 => ((some (([(⟨wrap64 (t122 - 2), wrap64 (t124 - 2)⟩ : S32), (⟨wrap64 ((wrap64 (t122 - 2)) + (wrap64 (1 + t126))), wrap64 (t124 - 2)⟩ : S32), (⟨wrap64 ((wrap64 (t122 - 2)) + (wrap64 (1 + t126))), wrap64 ((wrap64 (t124 - 2)) + (wrap64 (1 + bt128.1)))⟩ : S32), (⟨wrap64 (t122 - 2), wrap64 ((wrap64 (t124 - 2)) + (wrap64 (1 + bt128.1)))⟩ : S32)] : List (S32)) : List (S32))).bind fun y130 => (if (wrap64 (1 + t126)) > 1 then ((spec_l6Rd_pick.f k s0_0 bt128.2 2).bind fun bt133 => (spec_l92Box.j0 k (wrap64 (t122 - 2)) (wrap64 (t124 - 2)) y130 (bt133.1 == 0) s0_0 bt133.2)) else (spec_l92Box.j0 k (wrap64 (t122 - 2)) (wrap64 (t124 - 2)) y130 false s0_0 bt128.2)))) = some (r1, r2) := H
  have A4 := Aside0.mk A40
  clear A40
  replace H := Option.bind_eq_some_iff.mp H
  obtain ⟨⟨t128, t129⟩, A50, H⟩ := H
  replace H : ((some (([(⟨wrap64 (t122 - 2), wrap64 (t124 - 2)⟩ : S32), (⟨wrap64 ((wrap64 (t122 - 2)) + (wrap64 (1 + t126))), wrap64 (t124 - 2)⟩ : S32), (⟨wrap64 ((wrap64 (t122 - 2)) + (wrap64 (1 + t126))), wrap64 ((wrap64 (t124 - 2)) + (wrap64 (1 + t128)))⟩ : S32), (⟨wrap64 (t122 - 2), wrap64 ((wrap64 (t124 - 2)) + (wrap64 (1 + t128)))⟩ : S32)] : List (S32)) : List (S32))).bind fun y130 => (if (wrap64 (1 + t126)) > 1 then ((spec_l6Rd_pick.f k s0_0 t129 2).bind fun bt133 => (spec_l92Box.j0 k (wrap64 (t122 - 2)) (wrap64 (t124 - 2)) y130 (bt133.1 == 0) s0_0 bt133.2)) else (spec_l92Box.j0 k (wrap64 (t122 - 2)) (wrap64 (t124 - 2)) y130 false s0_0 t129))) = some (r1, r2) := H
  have A5 := Aside0.mk A50
  clear A50
  obtain ⟨y130, hy130⟩ : ∃ y_ : List (S32), y_ = (([(⟨wrap64 (t122 - 2), wrap64 (t124 - 2)⟩ : S32), (⟨wrap64 ((wrap64 (t122 - 2)) + (wrap64 (1 + t126))), wrap64 (t124 - 2)⟩ : S32), (⟨wrap64 ((wrap64 (t122 - 2)) + (wrap64 (1 + t126))), wrap64 ((wrap64 (t124 - 2)) + (wrap64 (1 + t128)))⟩ : S32), (⟨wrap64 (t122 - 2), wrap64 ((wrap64 (t124 - 2)) + (wrap64 (1 + t128)))⟩ : S32)] : List (S32))) := ⟨_, rfl⟩
  replace H : (if (wrap64 (1 + t126)) > 1 then ((spec_l6Rd_pick.f k s0_0 t129 2).bind fun bt133 => (spec_l92Box.j0 k (wrap64 (t122 - 2)) (wrap64 (t124 - 2)) y130 (bt133.1 == 0) s0_0 bt133.2)) else (spec_l92Box.j0 k (wrap64 (t122 - 2)) (wrap64 (t124 - 2)) y130 false s0_0 t129)) = some (r1, r2) := by first | (rw [hy130]; with_reducible exact H) | (have H2_ := (Option.bind_some _ _).symm.trans H; rw [hy130]; with_reducible exact H2_) | (have H2_ := (Option.bind_some _ _).symm.trans H; with_reducible exact H2_) | with_reducible exact H | (rw [hy130]; exact H) | exact H
  have Ny130 := Aside0.mk hy130
  clear hy130
  have HC6 := Aside0.mk H
  clear H
  go_enter Try.func59, Try.ntmps59
  go_upto_region 6 with (first | ((with_reducible refine gate_callee (f := 48) rfl ?_); refine goesL_ (some 9) rfl rfl Try.func48 (by kernel_rfl) rfl #[.pointer (some ⟨g, 0, none⟩), .int .i64 5] rfl qq3 ?_; (with_reducible refine (spec_l6Rd_pick.calls k g s0_0 s0_1 5 t122 t123 w0 _ ?side1 ?side2 A2.out).mono ?_); (case side1 => exact qq7); (case side2 => exact qq5 HB.out HI0.out); rintro e w7 ⟨rfl, hi, hb, hk⟩; refine ⟨_, rfl, ?_⟩; have n0_ := Aside0.mk (KeepBut.trans qq4 hk (.inl rfl)); have n1_ := Aside0.mk (hb); have n2_ := Aside0.mk (hi); clear HK; clear HB; clear HI0; have HK := n0_; have HB := n1_; have HI0 := n2_; clear n0_ n1_ n2_; (try clear hb); (try clear hb2); (try clear hk); (try clear hi)) | ((with_reducible refine gate_callee (f := 48) rfl ?_); refine goesL_ (some 12) rfl rfl Try.func48 (by kernel_rfl) rfl #[.pointer (some ⟨g, 0, none⟩), .int .i64 5] rfl qq3 ?_; (with_reducible refine (spec_l6Rd_pick.calls k g s0_0 t123 5 t124 t125 w0 _ ?side1 ?side2 A3.out).mono ?_); (case side1 => exact qq7); (case side2 => exact qq5 HB.out HI0.out); rintro e w8 ⟨rfl, hi, hb, hk⟩; refine ⟨_, rfl, ?_⟩; have n0_ := Aside0.mk (KeepBut.trans qq4 hk (.inl rfl)); have n1_ := Aside0.mk (hb); have n2_ := Aside0.mk (hi); clear HK; clear HB; clear HI0; have HK := n0_; have HB := n1_; have HI0 := n2_; clear n0_ n1_ n2_; (try clear hb); (try clear hb2); (try clear hk); (try clear hi)) | ((with_reducible refine gate_callee (f := 48) rfl ?_); refine goesL_ (some 15) rfl rfl Try.func48 (by kernel_rfl) rfl #[.pointer (some ⟨g, 0, none⟩), .int .i64 5] rfl qq3 ?_; (with_reducible refine (spec_l6Rd_pick.calls k g s0_0 t125 5 t126 t127 w0 _ ?side1 ?side2 A4.out).mono ?_); (case side1 => exact qq7); (case side2 => exact qq5 HB.out HI0.out); rintro e w9 ⟨rfl, hi, hb, hk⟩; refine ⟨_, rfl, ?_⟩; have n0_ := Aside0.mk (KeepBut.trans qq4 hk (.inl rfl)); have n1_ := Aside0.mk (hb); have n2_ := Aside0.mk (hi); clear HK; clear HB; clear HI0; have HK := n0_; have HB := n1_; have HI0 := n2_; clear n0_ n1_ n2_; (try clear hb); (try clear hb2); (try clear hk); (try clear hi)) | ((with_reducible refine gate_callee (f := 48) rfl ?_); refine goesL_ (some 18) rfl rfl Try.func48 (by kernel_rfl) rfl #[.pointer (some ⟨g, 0, none⟩), .int .i64 5] rfl qq3 ?_; (with_reducible refine (spec_l6Rd_pick.calls k g s0_0 t127 5 t128 t129 w0 _ ?side1 ?side2 A5.out).mono ?_); (case side1 => exact qq7); (case side2 => exact qq5 HB.out HI0.out); rintro e w10 ⟨rfl, hi, hb, hk⟩; refine ⟨_, rfl, ?_⟩; have n0_ := Aside0.mk (KeepBut.trans qq4 hk (.inl rfl)); have n1_ := Aside0.mk (hb); have n2_ := Aside0.mk (hi); clear HK; clear HB; clear HI0; have HK := n0_; have HB := n1_; have HI0 := n2_; clear n0_ n1_ n2_; (try clear hb); (try clear hb2); (try clear hk); (try clear hi)) | ((with_reducible refine gate_dst (N := 40) rfl ?_); refine Kd.R_lit k32 _ 32 ?hg (N := 40) ?hd (xs := ([(⟨wrap64 (t122 - 2), wrap64 (t124 - 2)⟩ : S32), (⟨wrap64 ((wrap64 (t122 - 2)) + (wrap64 (1 + t126))), wrap64 (t124 - 2)⟩ : S32), (⟨wrap64 ((wrap64 (t122 - 2)) + (wrap64 (1 + t126))), wrap64 ((wrap64 (t124 - 2)) + (wrap64 (1 + t128)))⟩ : S32), (⟨wrap64 (t122 - 2), wrap64 ((wrap64 (t124 - 2)) + (wrap64 (1 + t128)))⟩ : S32)] : List (S32))) (inner := [.int .i64 (wrap64 (t122 - 2)), .int .i64 (wrap64 (t124 - 2)), .int .i64 (wrap64 ((wrap64 (t122 - 2)) + (wrap64 (1 + t126)))), .int .i64 (wrap64 (t124 - 2)), .int .i64 (wrap64 ((wrap64 (t122 - 2)) + (wrap64 (1 + t126)))), .int .i64 (wrap64 ((wrap64 (t124 - 2)) + (wrap64 (1 + t128)))), .int .i64 (wrap64 (t122 - 2)), .int .i64 (wrap64 ((wrap64 (t124 - 2)) + (wrap64 (1 + t128))))]) (ok := fun _ => True) (okp := fun _ => True) ?hr ?hp (fun _ hk => hk) trivial (Below.refl _ _) (Nat.le_refl _) (by simp) ?_; (case hd => rfl); (case hg => rfl); (case hr => exact qq23); (case hp => exact (Reps.c2 (show Kd.M k32 _ _ _ (⟨wrap64 (t122 - 2), wrap64 (t124 - 2)⟩ : S32) [.int .i64 (wrap64 (t122 - 2)), .int .i64 (wrap64 (t124 - 2))] from (k32_mkM _ _ _ (⟨wrap64 (t122 - 2), wrap64 (t124 - 2)⟩ : S32) )) (Reps.c2 (show Kd.M k32 _ _ _ (⟨wrap64 ((wrap64 (t122 - 2)) + (wrap64 (1 + t126))), wrap64 (t124 - 2)⟩ : S32) [.int .i64 (wrap64 ((wrap64 (t122 - 2)) + (wrap64 (1 + t126)))), .int .i64 (wrap64 (t124 - 2))] from (k32_mkM _ _ _ (⟨wrap64 ((wrap64 (t122 - 2)) + (wrap64 (1 + t126))), wrap64 (t124 - 2)⟩ : S32) )) (Reps.c2 (show Kd.M k32 _ _ _ (⟨wrap64 ((wrap64 (t122 - 2)) + (wrap64 (1 + t126))), wrap64 ((wrap64 (t124 - 2)) + (wrap64 (1 + t128)))⟩ : S32) [.int .i64 (wrap64 ((wrap64 (t122 - 2)) + (wrap64 (1 + t126)))), .int .i64 (wrap64 ((wrap64 (t124 - 2)) + (wrap64 (1 + t128))))] from (k32_mkM _ _ _ (⟨wrap64 ((wrap64 (t122 - 2)) + (wrap64 (1 + t126))), wrap64 ((wrap64 (t124 - 2)) + (wrap64 (1 + t128)))⟩ : S32) )) (Reps.c2 (show Kd.M k32 _ _ _ (⟨wrap64 (t122 - 2), wrap64 ((wrap64 (t124 - 2)) + (wrap64 (1 + t128)))⟩ : S32) [.int .i64 (wrap64 (t122 - 2)), .int .i64 (wrap64 ((wrap64 (t124 - 2)) + (wrap64 (1 + t128))))] from (k32_mkM _ _ _ (⟨wrap64 (t122 - 2), wrap64 ((wrap64 (t124 - 2)) + (wrap64 (1 + t128)))⟩ : S32) )) (Reps.none _ _)))))); intro v131 w11 ho12 hb hg_ hnew_; clear hg_ hnew_; (first | rw [← Ny130.out] at ho12 | (simp only [Int.reduceToNat] at ho12; rw [← Ny130.out] at ho12)); have n0_ := Aside0.mk (Kd.R_lower ho12 (keep_size (w := w) (g := g) (row := none) qq4)); have n1_ := Aside0.mk (IsS81.below qq7 hb); have n2_ := Aside0.mk (KeepBut.trans qq4 (KeepBut.of_below hb g none) (.inl rfl)); have n3_ := Aside0.mk (below_step (qq5 HB.out HI0.out) hb); clear HI0; clear HK; clear HB; have HO132 := n0_; have HI0 := n1_; have HK := n2_; have HB := n3_; clear n0_ n1_ n2_ n3_; clear hb ho12))
  (try simp only [Act.put, List.setIfInBounds_toArray, List.set_cons_zero, List.set_cons_succ])
  go_cut [47] (fun v47 wc => ∃ (kq : Nat) (x47_5 : Bool) (x1001_5 : Int), v47 = .bool x47_5 ∧ Aside0 (spec_l92Box.j0 kq (wrap64 (t122 - 2)) (wrap64 (t124 - 2)) y130 x47_5 s0_0 x1001_5 = some (r1, r2)) ∧ Aside0 (kq ≤ k) ∧ Aside0 (Kd.R k32 32 wc w.heap.size (fun _ => True) v131 y130) ∧ Aside0 (IsS81 w0 wc g s0_0 x1001_5) ∧ Aside0 (KeepBut w wc g none) ∧ Aside0 (Below w0.heap.size w0 wc))
  case first =>
    have H := HC6.out
    clear HC6
    by_cases c13 : (wrap64 (1 + t126)) > 1
    · rw [if_pos c13] at H
      have c13b0 : decide (1 < (wrap64 (1 + t126))) = true := decide_eq_true c13
      clear c13
      (first | rw [c13b0] | (simp only [i64_w, i32_w]; rw [c13b0]) | skip)
      replace H := Option.bind_eq_some_iff.mp H
      obtain ⟨⟨t133, t134⟩, A140, H⟩ := H
      replace H : (spec_l92Box.j0 k (wrap64 (t122 - 2)) (wrap64 (t124 - 2)) y130 (t133 == 0) s0_0 t134) = some (r1, r2) := H
      have A14 := Aside0.mk A140
      clear A140
      have H' := Aside0.mk H
      clear H
      go_wp2_with (first | (go_at_call 48; (with_reducible refine (spec_l6Rd_pick.calls k g s0_0 t129 2 t133 t134 w0 _ ?side1 ?side2 A14.out).mono ?_); (case side1 => exact qq7); (case side2 => exact qq5 HB.out HI0.out); rintro e w15 ⟨rfl, hi, hb, hk⟩; have n0_ := Aside0.mk (Kd.R_mono (Kd.R_keep (IsS81.apart (show IsS81 w0 _ g s0_0 t129 from by repeat (first | (with_reducible first | exact HI0.out | apply IsS81.alloc | apply IsS81.drewN | apply IsS81.drew | apply IsS81.set_1) | exact HI0.out)) (qq9 HO132.out) (by decide)) hk (fun _ h => h.2)) (fun _ h => h.1)); have n1_ := Aside0.mk (KeepBut.trans qq4 hk (.inl rfl)); have n2_ := Aside0.mk (hb); have n3_ := Aside0.mk (hi); clear HO132; clear HK; clear HB; clear HI0; have HO132 := n0_; have HK := n1_; have HB := n2_; have HI0 := n3_; clear n0_ n1_ n2_ n3_; (try clear hb); (try clear hb2); (try clear hk); (try clear hi)))
      go_meet
      case rel => exact ⟨_, ((t133 == 0)), (t134), qq24, H', ⟨qq46⟩, ⟨qq9 HO132.out⟩, ⟨qq7⟩, ⟨qq4⟩, ⟨qq5 HB.out HI0.out⟩⟩
    · rw [if_neg c13] at H
      have c13b0 : decide (1 < (wrap64 (1 + t126))) = false := decide_eq_false c13
      clear c13
      (first | rw [c13b0] | (simp only [i64_w, i32_w]; rw [c13b0]) | skip)
      have H' := Aside0.mk H
      clear H
      go_wp2
      go_meet
      case rel => exact ⟨_, (false), (t129), qq24, H', ⟨qq46⟩, ⟨qq9 HO132.out⟩, ⟨qq7⟩, ⟨qq4⟩, ⟨qq5 HB.out HI0.out⟩⟩
  case rest =>
    clear HC6
    try clear c1
    try clear c2
    try clear p2
    try clear c4
    try clear c5
    try clear p6
    try clear c13
    try clear c13b0
    obtain ⟨kq, x47_5, x1001_5, rfl, HA, HJ5, HO_7, HI0, HK, HB⟩ := hcut
    cases kq with
    | zero => exact absurd HA.out (by simp [spec_l92Box.j0])
    | succ kj5 =>
      have H := HA.out
      clear HA
      simp only [spec_l92Box.j0] at H
      by_cases c16 : x47_5 = true
      · subst c16
        have H1 : ((some (([(⟨(wrap64 (t122 - 2)), (wrap64 (t124 - 2))⟩ : S32), (⟨wrap64 ((wrap64 (t122 - 2)) + 1), (wrap64 (t124 - 2))⟩ : S32)] : List (S32)) : List (S32))).bind fun y135 => (if 1 ≤ (y130.length : Int) then ((some (y130.drop 1 : List (S32))).bind fun y138 => (if y135.length + y138.length < 8796093022208 then ((some (y135 ++ y138 : List (S32))).bind fun y142 => ((spec_l6Rd_pick.f kj5 s0_0 x1001_5 3).bind fun bt145 => (if bt145.1 = 0 then (if 1 ≤ y142.length ∧ y142.length ≤ 100 then (some (y142.drop 1 ++ [rd_T32 y142 0], bt145.2)) else none) else (some (y142, bt145.2))))) else (none))) else (none))) = some (r1, r2) := by rw [if_pos rfl] at H; exact H
        clear H
        have H := H1
        clear H1
        obtain ⟨y135, hy135⟩ : ∃ y_ : List (S32), y_ = (([(⟨(wrap64 (t122 - 2)), (wrap64 (t124 - 2))⟩ : S32), (⟨wrap64 ((wrap64 (t122 - 2)) + 1), (wrap64 (t124 - 2))⟩ : S32)] : List (S32))) := ⟨_, rfl⟩
        replace H : (if 1 ≤ (y130.length : Int) then ((some (y130.drop 1 : List (S32))).bind fun y138 => (if y135.length + y138.length < 8796093022208 then ((some (y135 ++ y138 : List (S32))).bind fun y142 => ((spec_l6Rd_pick.f kj5 s0_0 x1001_5 3).bind fun bt145 => (if bt145.1 = 0 then (if 1 ≤ y142.length ∧ y142.length ≤ 100 then (some (y142.drop 1 ++ [rd_T32 y142 0], bt145.2)) else none) else (some (y142, bt145.2))))) else (none))) else (none)) = some (r1, r2) := by first | (rw [hy135]; with_reducible exact H) | (have H2_ := (Option.bind_some _ _).symm.trans H; rw [hy135]; with_reducible exact H2_) | (have H2_ := (Option.bind_some _ _).symm.trans H; with_reducible exact H2_) | with_reducible exact H | (rw [hy135]; exact H) | exact H
        have Ny135 := Aside0.mk hy135
        clear hy135
        by_cases c17 : 1 ≤ (y130.length : Int)
        · rw [if_pos c17] at H
          have c17b0 := eq_true c17
          have c17b1 : decide (1 ≤ (y130.length : Int)) = true := decide_eq_true c17
          clear c17
          obtain ⟨y138, hy138⟩ : ∃ y_ : List (S32), y_ = (y130.drop 1) := ⟨_, rfl⟩
          replace H : (if y135.length + y138.length < 8796093022208 then ((some (y135 ++ y138 : List (S32))).bind fun y142 => ((spec_l6Rd_pick.f kj5 s0_0 x1001_5 3).bind fun bt145 => (if bt145.1 = 0 then (if 1 ≤ y142.length ∧ y142.length ≤ 100 then (some (y142.drop 1 ++ [rd_T32 y142 0], bt145.2)) else none) else (some (y142, bt145.2))))) else (none)) = some (r1, r2) := by first | (rw [hy138]; with_reducible exact H) | (have H2_ := (Option.bind_some _ _).symm.trans H; rw [hy138]; with_reducible exact H2_) | (have H2_ := (Option.bind_some _ _).symm.trans H; with_reducible exact H2_) | with_reducible exact H | (rw [hy138]; exact H) | exact H
          have Ny138 := Aside0.mk hy138
          clear hy138
          by_cases c18 : y135.length + y138.length < 8796093022208
          · rw [if_pos c18] at H
            have LMc18 := Aside0.mk c18
            clear c18
            obtain ⟨y142, hy142⟩ : ∃ y_ : List (S32), y_ = (y135 ++ y138) := ⟨_, rfl⟩
            replace H : ((spec_l6Rd_pick.f kj5 s0_0 x1001_5 3).bind fun bt145 => (if bt145.1 = 0 then (if 1 ≤ y142.length ∧ y142.length ≤ 100 then (some (y142.drop 1 ++ [rd_T32 y142 0], bt145.2)) else none) else (some (y142, bt145.2)))) = some (r1, r2) := by first | (rw [hy142]; with_reducible exact H) | (have H2_ := (Option.bind_some _ _).symm.trans H; rw [hy142]; with_reducible exact H2_) | (have H2_ := (Option.bind_some _ _).symm.trans H; with_reducible exact H2_) | with_reducible exact H | (rw [hy142]; exact H) | exact H
            have Ny142 := Aside0.mk hy142
            clear hy142
            replace H := Option.bind_eq_some_iff.mp H
            obtain ⟨⟨t145, t146⟩, A190, H⟩ := H
            replace H : (if t145 = 0 then (if 1 ≤ y142.length ∧ y142.length ≤ 100 then (some (y142.drop 1 ++ [rd_T32 y142 0], t146)) else none) else (some (y142, t146))) = some (r1, r2) := H
            have A19 := Aside0.mk A190
            clear A190
            by_cases c20 : t145 = 0
            · rw [if_pos c20] at H
              have c20b0 : (t145 == 0) = true := beq_iff_eq.mpr c20
              have c20b1 : (t145 != 0) = false := bne_eq_false_iff_eq.mpr c20
              clear c20
              by_cases hl9 : 1 ≤ y142.length ∧ y142.length ≤ 100
              case neg => rw [if_neg hl9] at H; exact absurd H (by simp)
              rw [if_pos hl9] at H
              simp only [Option.some.injEq, Prod.mk.injEq] at H
              obtain ⟨hr1, rfl⟩ := H; have HR1 := Aside0.mk hr1; clear hr1
              go_wp2_with (first | ((with_reducible refine gate_dst (N := 55) rfl ?_); refine Kd.R_lit k32 _ 32 ?hg (N := 55) ?hd (xs := ([(⟨(wrap64 (t122 - 2)), (wrap64 (t124 - 2))⟩ : S32), (⟨wrap64 ((wrap64 (t122 - 2)) + 1), (wrap64 (t124 - 2))⟩ : S32)] : List (S32))) (inner := [.int .i64 (wrap64 (t122 - 2)), .int .i64 (wrap64 (t124 - 2)), .int .i64 (wrap64 ((wrap64 (t122 - 2)) + 1)), .int .i64 (wrap64 (t124 - 2))]) (ok := fun _ => True) (okp := fun _ => True) ?hr ?hp (fun _ hk => hk) trivial (Below.refl _ _) (Nat.le_refl _) (by simp) ?_; (case hd => rfl); (case hg => rfl); (case hr => exact qq23); (case hp => exact qq40); intro v136 w21 ho22 hb hg_ hnew_; clear hg_ hnew_; (first | rw [← Ny135.out] at ho22 | (simp only [Int.reduceToNat] at ho22; rw [← Ny135.out] at ho22)); have n0_ := Aside0.mk (Kd.R_elder' (qq9 HO_7.out) (Kd.R_base ho22) hb); have n1_ := Aside0.mk (Kd.R_lower (Kd.R_new' ho22 (Kd.R_lt (qq9 HO_7.out))) (keep_size (w := w) (g := g) (row := none) qq4)); have n2_ := Aside0.mk (IsS81.below qq7 hb); have n3_ := Aside0.mk (KeepBut.trans qq4 (KeepBut.of_below hb g none) (.inl rfl)); have n4_ := Aside0.mk (below_step (qq5 HB.out HI0.out) hb); clear HO_7; clear HI0; clear HK; clear HB; have HO_7 := n0_; have HO137 := n1_; have HI0 := n2_; have HK := n3_; have HB := n4_; clear n0_ n1_ n2_ n3_ n4_; clear hb ho22; obtain ⟨Ao24, co24, eo24⟩ := Kd.R_slice HO_7.out; subst eo24; have q23 : (1 : Int) ≤ ((y130.length : Int) : Int) := of_decide_eq_true qq10; obtain ⟨i023, hi023, _, hsz23, _⟩ := info_parts info32; have hroom23 : y130.length ≤ co24 := (Kd.R_reads' HO_7.out).2.1; have hC23 : Kd.C k32 _ Ao24 y130.length y130 := (Kd.R_reads' HO_7.out).2.2; have hcut23 := cut_from (P := Try.prog) 23 32 .i64 Try.underlying23 hi023 2 hsz23 Ao24 y130.length co24 1 (by omega) q23; have hr23 := Kd.C_drop (m := (1 : Int).toNat) (c := co24) hC23 (by omega) hroom23; obtain ⟨A23, hA23⟩ : ∃ Az_, Az_ = (if co24 = (1 : Int).toNat then Ao24 else (Ao24 : Option Addr).map (·.add ((1 : Int).toNat * 2))) := ⟨_, rfl⟩; obtain ⟨c23, hc23⟩ : ∃ cz_, cz_ = co24 - (1 : Int).toNat := ⟨_, rfl⟩; have hy23 : y138.length = y130.length - (1 : Int).toNat := (by rw [Ny138.out, List.length_drop] <;> omega); rw [show (y130).drop (1 : Int).toNat = y138 from Ny138.out.symm] at hr23; replace hr23 : Kd.C k32 _ A23 y138.length y138 := (by rw [hA23]; exact hr23); rw [← hy23, ← hA23, ← hc23] at hcut23; have HR141 := Aside0.mk hr23; have HC141 := Aside0.mk (show y138.length ≤ c23 from by rw [hy23, hc23]; exact Nat.sub_le_sub_right hroom23 _); clear hr23 hC23 hroom23 hi023 hsz23 hc23; have KY23 := Aside0.mk hy23; have KA23 := Aside0.mk hA23; clear hy23 hA23; have KL23 := Aside0.mk (show 1 ≤ y130.length from by omega); replace q23 := eq_true q23) | ((with_reducible refine gate_builtin (b := .append) (xs := #[.tmp 55, .tmp 57]) rfl ?_); at_builtin; refine Kd.R_append_rows k32 w.heap.size rfl (.tmp 55) (.tmp 57) 23 32 (.agg #[(.int .i64 0), (.int .i64 0)]) 16 rfl Try.underlying23 info32 rfl (by decide) (by omega) v136 y135 y138 _ _ _ (fun k_ => some k_ ≠ (.slice Ao24 y130.length co24 : Value).ownBlock) (fun _ => False) rfl rfl ?aO ?aR (fun _ _ h => h) (fun _ h => h.elim) ?aF (Below.refl _ _) ?aS ?aL ?_; (case aR => exact qq57); (case aF => exact (fun k_ hk => Kd.fresh' (Kd.R_lt (qq9 HO_7.out)) k_ hk)); (case aO => exact (qq37 HO137.out)); (case aS => exact qq69); (case aL => have := LMc18.out; omega); intro v143 w25 ho hb hg hat; rw [← Ny142.out] at ho; have n0_ := Aside0.mk (Kd.R_after (ok := (fun _ => True)) (qq9 HO_7.out) hg hat); have n1_ := Aside0.mk (IsS81.grown qq7 hg (IsS81.own_ne HI0.out HO137.out (by decide))); have n2_ := Aside0.mk (below_weaken (qq5 HB.out HI0.out) HL.out hb); have n3_ := Aside0.mk (KeepBut.trans qq4 (KeepBut.of_grown hg g) (Kd.R_base2 HO137.out)); have n4_ := Aside0.mk ((show Kd.C k32 w25 A23 y138.length y138 from by rw [Ny138.out, KA23.out]; exact Kd.C_drop (m := 1) (c := co24) ((Kd.R_reads' (Kd.R_after (ok := (fun _ => True)) (qq9 HO_7.out) hg hat)).2.2) KL23.out ((Kd.R_reads' (Kd.R_after (ok := (fun _ => True)) (qq9 HO_7.out) hg hat)).2.1))); have n5_ := Aside0.mk (ho); clear HO_7; clear HI0; clear HB; clear HK; clear HR141; clear HO137; have HO_7 := n0_; have HI0 := n1_; have HB := n2_; have HK := n3_; have HR141 := n4_; have HO144 := n5_; clear n0_ n1_ n2_ n3_ n4_ n5_; clear ho hb hg hat) | ((with_reducible refine gate_callee (f := 48) rfl ?_); refine goesL_ (some 60) rfl rfl Try.func48 (by kernel_rfl) rfl #[.pointer (some ⟨g, 0, none⟩), .int .i64 3] rfl qq3 ?_; (with_reducible refine (spec_l6Rd_pick.calls kj5 g s0_0 x1001_5 3 t145 t146 w0 _ ?side1 ?side2 A19.out).mono ?_); (case side1 => exact qq7); (case side2 => exact qq5 HB.out HI0.out); rintro e w26 ⟨rfl, hi, hb, hk⟩; refine ⟨_, rfl, ?_⟩; have n0_ := Aside0.mk (Kd.R_mono (Kd.R_keep (IsS81.apart (show IsS81 w0 _ g s0_0 x1001_5 from by repeat (first | (with_reducible first | exact HI0.out | apply IsS81.alloc | apply IsS81.drewN | apply IsS81.drew | apply IsS81.set_1) | exact HI0.out)) (qq9 HO_7.out) (by decide)) hk (fun _ h => h.2)) (fun _ h => h.1)); have n1_ := Aside0.mk (Kd.R_mono (Kd.R_keep (IsS81.apart (show IsS81 w0 _ g s0_0 x1001_5 from by repeat (first | (with_reducible first | exact HI0.out | apply IsS81.alloc | apply IsS81.drewN | apply IsS81.drew | apply IsS81.set_1) | exact HI0.out)) (qq9 HO144.out) (by decide)) hk (fun _ h => h.2)) (fun _ h => h.1)); have n2_ := Aside0.mk (KeepBut.trans qq4 hk (.inl rfl)); have n3_ := Aside0.mk (hb); have n4_ := Aside0.mk (hi); clear HO_7; clear HO144; clear HK; clear HB; clear HI0; have HO_7 := n0_; have HO144 := n1_; have HK := n2_; have HB := n3_; have HI0 := n4_; clear n0_ n1_ n2_ n3_ n4_; (try clear hb); (try clear hb2); (try clear hk); (try clear hi)))
              obtain ⟨WW, hWW, hR9⟩ : ∃ WW : World, WW = _ ∧ Kd.R k32 32 WW w.heap.size (fun _ => True) _ y142 := ⟨_, rfl, Kd.R_mono (ok' := fun _ => True) HO144.out (fun _ _ => trivial)⟩
              subst hWW
              obtain ⟨gq, cq, eq_, _, _, _⟩ := Kd.R_form hR9 (by omega)
              (first | subst eq_ | (injection eq_ with ea_ en_ ec_; (first | subst ea_ | (injection ea_ with ea_; subst ea_)); subst ec_; clear en_))
              have hQ9 := Kd.Q_of_R hR9
              have hc9 := (Kd.R_reads' hR9).2.1
              have hd9 := Kd.Q_drop (k := 1) hQ9 (by omega)
              obtain ⟨vc, hvc⟩ : ∃ vc, Value.slice (if cq = 1 then (some ⟨gq, 0, none⟩ : Option Addr) else (some ⟨gq, 0, none⟩ : Option Addr).map (·.add (1 * 2))) (y142.length - 1) (cq - 1) = vc := ⟨_, rfl⟩
              replace hd9 : Kd.Q k32 32 WW w.heap.size (fun _ => True) vc (y142.drop 1) := by rw [← hvc]; exact hd9
              obtain ⟨i9, hi9, _, hsz9, _⟩ := info_parts info32
              have hcut9 : ∀ W : World, (Instr.slice 23 (.slice (some ⟨gq, 0, none⟩) y142.length cq) (some (.int .i64 1)) none none).run Try.prog W = .ok vc W := fun W => by rw [← hvc]; exact cut_from (P := Try.prog) 23 32 .i64 Try.underlying23 hi9 2 hsz9 (some ⟨gq, 0, none⟩) y142.length cq 1 (by decide) (by omega) W
              obtain ⟨ad9, ead9, hx9, hy9⟩ := at_T32 (Kd.R_reads' hR9).2.2 0 (by decide) (by omega)
              cases ead9
              have hx9' : WW.cell? ⟨gq, 0, none⟩ = some (.int .i64 (rd_T32 y142 0).f0) := by simpa [Addr.add] using hx9
              have hy9' : WW.cell? ⟨gq, 1, none⟩ = some (.int .i64 (rd_T32 y142 0).f1) := by simpa [Addr.add] using hy9
              have hbs9 := HK.out.1
              have HQ9 := Aside0.mk hd9
              obtain ⟨p9, hp9⟩ : ∃ p, rd_T32 y142 0 = p := ⟨_, rfl⟩
              rw [hp9] at hx9' hy9'
              obtain ⟨y9, hy9_⟩ : ∃ y_, y142.drop 1 = y_ := ⟨_, rfl⟩
              have hyl9 : y9.length ≤ 100 := by rw [← hy9_, List.length_drop]; omega
              rw [hy9_] at HQ9
              clear hR9 hQ9 hd9 hvc hx9 hy9
              refine wpIn_wide (n := 0) |>.1 ?_
              have HF := Drawn.wide_plain Try.prog
              refine Drawn.act_name fun A0 hA0 => ?_
              obtain ⟨VS, hVS⟩ : ∃ VS : Value → Value → List (Option Tmp × Value), (fun u u' => [(some 62, .slice (some ⟨gq, 0, none⟩) y142.length cq), (some 63, vc), (some 64, .slice (some ⟨gq, 0, none⟩) y142.length cq), (some 65, .pointer (some ⟨gq, 0, none⟩)), (some 66, .agg #[.int .i64 p9.f0, .int .i64 p9.f1]), (some 67, .slice (some ⟨WW.heap.size, 0, none⟩) 1 1), (some 68, u), (some 2, u')]) = VS := ⟨_, rfl⟩
              have HN : ∀ u u', ((VS u u').filterMap (·.1)).Nodup := fun u u' => by rw [← hVS]; exact (show List.Nodup [(62 : Tmp), (63 : Tmp), (64 : Tmp), (65 : Tmp), (66 : Tmp), (67 : Tmp), (68 : Tmp), (2 : Tmp)] by decide)
              have E7 : ∀ (u u' : Value) (L : List Bool), (Drawn.fill (VS u u') L A0).tmps[7]?.getD undef = .slice (some ⟨gq, 0, none⟩) y142.length cq := fun u u' L => Drawn.fill_old _ _ _ qq72 (by rw [← hA0]; rfl)
              have E62 : ∀ (u u' : Value) (L : List Bool), L[0]? = some true → (Drawn.fill (VS u u') L A0).tmps[62]?.getD undef = .slice (some ⟨gq, 0, none⟩) y142.length cq := fun u u' L h => Drawn.fill_at (HN u u') (j := 0) (by rw [← hVS]; rfl) h (by rw [← hA0]; simp)
              have E63 : ∀ (u u' : Value) (L : List Bool), L[1]? = some true → (Drawn.fill (VS u u') L A0).tmps[63]?.getD undef = vc := fun u u' L h => Drawn.fill_at (HN u u') (j := 1) (by rw [← hVS]; rfl) h (by rw [← hA0]; simp)
              have E64 : ∀ (u u' : Value) (L : List Bool), L[2]? = some true → (Drawn.fill (VS u u') L A0).tmps[64]?.getD undef = .slice (some ⟨gq, 0, none⟩) y142.length cq := fun u u' L h => Drawn.fill_at (HN u u') (j := 2) (by rw [← hVS]; rfl) h (by rw [← hA0]; simp)
              have E65 : ∀ (u u' : Value) (L : List Bool), L[3]? = some true → (Drawn.fill (VS u u') L A0).tmps[65]?.getD undef = .pointer (some ⟨gq, 0, none⟩) := fun u u' L h => Drawn.fill_at (HN u u') (j := 3) (by rw [← hVS]; rfl) h (by rw [← hA0]; simp)
              have E66 : ∀ (u u' : Value) (L : List Bool), L[4]? = some true → (Drawn.fill (VS u u') L A0).tmps[66]?.getD undef = .agg #[.int .i64 p9.f0, .int .i64 p9.f1] := fun u u' L h => Drawn.fill_at (HN u u') (j := 4) (by rw [← hVS]; rfl) h (by rw [← hA0]; simp)
              have E67 : ∀ (u u' : Value) (L : List Bool), L[5]? = some true → (Drawn.fill (VS u u') L A0).tmps[67]?.getD undef = .slice (some ⟨WW.heap.size, 0, none⟩) 1 1 := fun u u' L h => Drawn.fill_at (HN u u') (j := 5) (by rw [← hVS]; rfl) h (by rw [← hA0]; simp)
              have E68 : ∀ (u u' : Value) (L : List Bool), L[6]? = some true → (Drawn.fill (VS u u') L A0).tmps[68]?.getD undef = u := fun u u' L h => Drawn.fill_at (HN u u') (j := 6) (by rw [← hVS]; rfl) h (by rw [← hA0]; simp)
              obtain ⟨V, hV⟩ : ∃ V : List Bool → List (Option Tmp × Value) → World → Prop, (fun L vs w' => ∃ u u', vs = VS u u' ∧ (L[7]? = some true → u' = u) ∧ (L[6]? = some true → Kd.Q k32 32 w' w.heap.size (fun _ => True) u (y9 ++ [p9]) ∧ Below w.heap.size WW w' ∧ WW.grownBy w' vc.ownBlock) ∧ (L[6]? = some false → L[5]? = some true → w' = WW.drew.alloc (.cells #[.int .i64 p9.f0, .int .i64 p9.f1] 32)) ∧ (L[5]? = some false → w' = WW.drew)) = V := ⟨_, rfl⟩
              have keep : ∀ (L : List Bool) (u u' : Value) (w' : World) (i : Nat), i < 5 → V L (VS u u') w' → V (L.set i true) (VS u u') w' := by
                intro L u u' w' i hi h
                rw [← hV] at h ⊢
                obtain ⟨u1, u2, h1, h2⟩ := h
                refine ⟨u1, u2, h1, ?_⟩
                rw [List.getElem?_set_ne (by omega), List.getElem?_set_ne (by omega), List.getElem?_set_ne (by omega)]
                exact h2
              refine Drawn.drawn_any (by kernel_rfl) (Drawn.early_spec (by kernel_rfl)) (show List.Nodup [(62 : Tmp), (63 : Tmp), (64 : Tmp), (65 : Tmp), (66 : Tmp), (67 : Tmp), (68 : Tmp), (2 : Tmp)] by decide) V (fun L vs w' h => by rw [← hV] at h; obtain ⟨u, u', rfl, _⟩ := h; rw [← hVS]; rfl) (VS undef undef) qq74 ?_ ?_
              · intro i o vs L w' ho hl hli hpre hcl hVL K hK
                have hVL' := hVL
                rw [← hV] at hVL'
                obtain ⟨u, u', rfl, hu7, hu6, hu56, hu5⟩ := hVL'
                have hii : i = 0 ∨ i = 1 ∨ i = 2 ∨ i = 3 ∨ i = 4 ∨ i = 5 ∨ i = 6 ∨ i = 7 := by have hq := (Array.getElem?_eq_some_iff.1 ho).1; simp at hq; omega
                have dn : ∀ j, j < 8 → L[j]? ≠ some true → L[j]? = some false := fun j hj h => by rw [List.getElem?_eq_getElem (by rw [hl]; exact hj)] at h ⊢; cases hc : L[j]'(by rw [hl]; exact hj) <;> simp_all
                rcases hii with rfl | rfl | rfl | rfl | rfl | rfl | rfl | rfl
                · obtain rfl := Option.some.inj ho
                  have e7 := E7 u u' L
                  refine Drawn.st_val HF rfl (by simp) rfl (v := .slice (some ⟨gq, 0, none⟩) y142.length cq) (w' := w') ?_ (hK _ w' qq80)
                  generalize Drawn.fill (VS u u') L A0 = A at e7 ⊢
                  simp [execOp, go_sem, e7]
                · obtain rfl := Option.some.inj ho
                  have e62 := E62 u u' L (hpre ⟨0, .data⟩ (by simp) rfl)
                  refine Drawn.st_val HF rfl (by simp) rfl (v := vc) (w' := w') ?_ (hK _ w' qq81)
                  generalize Drawn.fill (VS u u') L A0 = A at e62 ⊢
                  have s62 := (Drawn.eval_tmp A 62).trans e62
                  change (execOp A.eval { dst := some 63, op := Op.slice 23 (Operand.tmp 62) (some (Operand.const (Value.int IntKind.i64 1))) none none, type := 23, pos := "l92_draw.go:128", after := #[{ on := 0, ground := Ground.data }], guard := none }).run Try.prog w' = _
                  unfold execOp
                  simp only [Option.map_some, Option.map_none, s62, show A.eval (.const (.int .i64 1)) = .int .i64 1 from rfl, Sem.run_bind, Sem.run_pure]
                  rw [show (Instr.sliceAt 23 (.slice (some ⟨gq, 0, none⟩) y142.length cq) (some (.int .i64 1)) none none).run Try.prog w' = .ok vc w' from hcut9 w']
                  rfl
                · obtain rfl := Option.some.inj ho
                  have e7 := E7 u u' L
                  refine Drawn.st_val HF rfl (by simp) rfl (v := .slice (some ⟨gq, 0, none⟩) y142.length cq) (w' := w') ?_ (hK _ w' qq82)
                  generalize Drawn.fill (VS u u') L A0 = A at e7 ⊢
                  simp [execOp, go_sem, e7]
                · obtain rfl := Option.some.inj ho
                  have e64 := E64 u u' L (hpre ⟨2, .data⟩ (by simp) rfl)
                  refine Drawn.st_val HF rfl (by simp) rfl (v := .pointer (some ⟨gq, 0, none⟩)) (w' := w') ?_ (hK _ w' qq83)
                  have hpos : 0 < y142.length := by omega
                  generalize Drawn.fill (VS u u') L A0 = A at e64 ⊢
                  simp [execOp, go_sem, e64, hpos, Addr.add]
                · obtain rfl := Option.some.inj ho
                  have e65 := E65 u u' L (hpre ⟨3, .data⟩ (by simp) rfl)
                  have n5 := dn 5 (by decide) (fun h5 => by have h4 := hcl 5 _ rfl h5 ⟨4, .data⟩ (by simp) rfl; rw [hli] at h4; cases h4)
                  obtain rfl := hu5 n5
                  have c1 : WW.drew.cell? ⟨gq, 0, none⟩ = _ := hx9'
                  have c2 : WW.drew.cell? ⟨gq, 1, none⟩ = _ := hy9'
                  refine Drawn.st_val HF rfl (by simp) rfl (v := .agg #[.int .i64 p9.f0, .int .i64 p9.f1]) (w' := WW.drew) ?_ (hK _ WW.drew qq79)
                  generalize Drawn.fill (VS u u') L A0 = A at e65 ⊢
                  simp [execOp, go_sem, e65, c1, c2]
                · obtain rfl := Option.some.inj ho
                  have e66 := E66 u u' L (hpre ⟨4, .data⟩ (by simp) rfl)
                  have n6 := dn 6 (by decide) (fun h6 => by have h5 := hcl 6 _ rfl h6 ⟨5, .data⟩ (by simp) rfl; rw [hli] at h5; cases h5)
                  obtain rfl := hu5 hli
                  refine Drawn.st_val HF rfl (by simp) rfl (v := .slice (some ⟨WW.heap.size, 0, none⟩) 1 1) (w' := WW.drew.alloc (.cells #[.int .i64 p9.f0, .int .i64 p9.f1] 32)) ?_ (hK _ _ ?_)
                  · generalize Drawn.fill (VS u u') L A0 = A at e66 ⊢
                    simp [execOp, go_sem, e66]
                  · rw [← hV]
                    refine ⟨u, u', by rw [← hVS]; rfl, fun h => hu7 qq75, fun h => ?_, fun _ _ => rfl, fun h => ?_⟩
                    · rw [List.getElem?_set_ne (by decide), n6] at h; cases h
                    · rw [List.getElem?_set_self (by rw [hl]; decide)] at h; cases h
                · obtain rfl := Option.some.inj ho
                  have e63 := E63 u u' L (hpre ⟨1, .data⟩ (by simp) rfl)
                  have h5t := hpre ⟨5, .data⟩ (by simp) rfl
                  have e67 := E67 u u' L h5t
                  obtain rfl := hu56 hli h5t
                  obtain ⟨v1, w1, hr9, q1, q2, q3, _⟩ := Kd.Q_run (P := Try.prog) (W := WW.drew) k32 (w0 := WW) w.heap.size 23 23 32 (.agg #[(.int .i64 0), (.int .i64 0)]) 16 Try.underlying23 info32 rfl (by decide) (by omega) vc y9 p9 _ (fun _ => True) (fun _ => False) (k32_mkM _ _ _ p9) (fun _ h => h.elim) (fun _ _ => trivial) HQ9.out (below_drew1 (Below.refl _ _)) hbs9 (by omega)
                  refine Drawn.st_val HF rfl (by simp) rfl (v := v1) (w' := w1) ?_ (hK _ _ ?_)
                  · generalize Drawn.fill (VS u u') L A0 = A at e63 e67 ⊢
                    have s63 := (Drawn.eval_tmp A 63).trans e63
                    have s67 := (Drawn.eval_tmp A 67).trans e67
                    change (execOp A.eval { dst := some 68, op := Op.call { callee := Callee.builtin Builtin.append, args := #[Operand.tmp 63, Operand.tmp 67], argTypes := #[23, 23] }, type := 23, pos := "l92_draw.go:128", after := #[{ on := 1, ground := Ground.data }, { on := 5, ground := Ground.data }], guard := none }).run Try.prog _ = _
                    unfold execOp
                    simp only [resolve, invoke, builtin, Sem.run_bind, Sem.run_pure, Result.andThen_ok, List.map_toArray, List.map_cons, List.map_nil, s63, s67]
                    rw [show WW.drew.heap.size = WW.heap.size from rfl] at hr9
                    rw [show (#[.int .i64 p9.f0, .int .i64 p9.f1] : Array Value) = [.int .i64 p9.f0, .int .i64 p9.f1].toArray from rfl, hr9]
                    rfl
                  · rw [← hV]
                    have n7 := dn 7 (by decide) (fun h7 => by have h6 := hcl 7 _ rfl h7 ⟨6, .data⟩ (by simp) rfl; rw [hli] at h6; cases h6)
                    refine ⟨v1, u', by rw [← hVS]; rfl, fun h => ?_, fun _ => ⟨q1, q2, World.grownBy.trans (grown_of_below (below_drew1 (Below.refl WW.heap.size WW)) _) q3⟩, fun h => ?_, fun h => ?_⟩
                    · rw [List.getElem?_set_ne (by decide), n7] at h; cases h
                    · rw [List.getElem?_set_self (by rw [hl]; decide)] at h; cases h
                    · rw [List.getElem?_set_ne (by decide), h5t] at h; cases h
                · obtain rfl := Option.some.inj ho
                  have h6t := hpre ⟨6, .data⟩ (by simp) rfl
                  have e68 := E68 u u' L h6t
                  refine Drawn.st_val HF rfl (by simp) rfl (v := u) (w' := w') ?_ (hK _ w' ?_)
                  · generalize Drawn.fill (VS u u') L A0 = A at e68 ⊢
                    simp [execOp, go_sem, e68]
                  · rw [← hV]
                    refine ⟨u, u, by rw [← hVS]; rfl, fun _ => rfl, fun _ => hu6 h6t, fun h => ?_, fun h => hu5 qq75⟩
                    rw [List.getElem?_set_ne (by decide), h6t] at h; cases h
              · intro vs w' hVL
                rw [← hV] at hVL
                obtain ⟨u, u', rfl, hu7, hu6, _, _⟩ := hVL
                obtain rfl := hu7 rfl
                obtain ⟨q1, q2, q3⟩ := hu6 rfl
                rw [← hVS, ← hA0]
                simp only [List.size_toArray, List.length_cons, List.length_nil, Nat.reduceAdd, List.replicate, Drawn.fill, if_true, Act.put, List.setIfInBounds_toArray, List.set_cons_succ, List.set_cons_zero]
                have HIf := Aside0.mk (IsS81.grown HI0.out q3 (IsS81.own_neQ HI0.out HQ9.out (by decide)))
                have HBf := Aside0.mk (below_weaken HB.out HL.out q2)
                have HKf := Aside0.mk (KeepBut.trans HK.out (KeepBut.of_grown q3 g) (Kd.Q_base2 HQ9.out))
                have HQf := Aside0.mk q1
                clear q1 q2 q3 hu6 HN keep E7 E62 E63 E64 E65 E66 E67 E68 hVS hV hA0
                go_wp2
                go_ret
                exact ⟨_, rfl, by rw [← HR1.out, hy9_, hp9]; exact HQf.out, HIf.out, HBf.out, HKf.out⟩
            · rw [if_neg c20] at H
              have c20b0 : (t145 == 0) = false := beq_eq_false_iff_ne.mpr c20
              have c20b1 : (t145 != 0) = true := bne_iff_ne.mpr c20
              simp only [Option.some.injEq, Prod.mk.injEq] at H
              obtain ⟨rfl, rfl⟩ := H
              go_wp2_with (first | ((with_reducible refine gate_dst (N := 55) rfl ?_); refine Kd.R_lit k32 _ 32 ?hg (N := 55) ?hd (xs := ([(⟨(wrap64 (t122 - 2)), (wrap64 (t124 - 2))⟩ : S32), (⟨wrap64 ((wrap64 (t122 - 2)) + 1), (wrap64 (t124 - 2))⟩ : S32)] : List (S32))) (inner := [.int .i64 (wrap64 (t122 - 2)), .int .i64 (wrap64 (t124 - 2)), .int .i64 (wrap64 ((wrap64 (t122 - 2)) + 1)), .int .i64 (wrap64 (t124 - 2))]) (ok := fun _ => True) (okp := fun _ => True) ?hr ?hp (fun _ hk => hk) trivial (Below.refl _ _) (Nat.le_refl _) (by simp) ?_; (case hd => rfl); (case hg => rfl); (case hr => exact qq23); (case hp => exact qq40); intro v136 w27 ho28 hb hg_ hnew_; clear hg_ hnew_; (first | rw [← Ny135.out] at ho28 | (simp only [Int.reduceToNat] at ho28; rw [← Ny135.out] at ho28)); have n0_ := Aside0.mk (Kd.R_elder' (qq9 HO_7.out) (Kd.R_base ho28) hb); have n1_ := Aside0.mk (Kd.R_lower (Kd.R_new' ho28 (Kd.R_lt (qq9 HO_7.out))) (keep_size (w := w) (g := g) (row := none) qq4)); have n2_ := Aside0.mk (IsS81.below qq7 hb); have n3_ := Aside0.mk (KeepBut.trans qq4 (KeepBut.of_below hb g none) (.inl rfl)); have n4_ := Aside0.mk (below_step (qq5 HB.out HI0.out) hb); clear HO_7; clear HI0; clear HK; clear HB; have HO_7 := n0_; have HO137 := n1_; have HI0 := n2_; have HK := n3_; have HB := n4_; clear n0_ n1_ n2_ n3_ n4_; clear hb ho28; obtain ⟨Ao30, co30, eo30⟩ := Kd.R_slice HO_7.out; subst eo30; have q29 : (1 : Int) ≤ ((y130.length : Int) : Int) := of_decide_eq_true qq10; obtain ⟨i029, hi029, _, hsz29, _⟩ := info_parts info32; have hroom29 : y130.length ≤ co30 := (Kd.R_reads' HO_7.out).2.1; have hC29 : Kd.C k32 _ Ao30 y130.length y130 := (Kd.R_reads' HO_7.out).2.2; have hcut29 := cut_from (P := Try.prog) 23 32 .i64 Try.underlying23 hi029 2 hsz29 Ao30 y130.length co30 1 (by omega) q29; have hr29 := Kd.C_drop (m := (1 : Int).toNat) (c := co30) hC29 (by omega) hroom29; obtain ⟨A29, hA29⟩ : ∃ Az_, Az_ = (if co30 = (1 : Int).toNat then Ao30 else (Ao30 : Option Addr).map (·.add ((1 : Int).toNat * 2))) := ⟨_, rfl⟩; obtain ⟨c29, hc29⟩ : ∃ cz_, cz_ = co30 - (1 : Int).toNat := ⟨_, rfl⟩; have hy29 : y138.length = y130.length - (1 : Int).toNat := (by rw [Ny138.out, List.length_drop] <;> omega); rw [show (y130).drop (1 : Int).toNat = y138 from Ny138.out.symm] at hr29; replace hr29 : Kd.C k32 _ A29 y138.length y138 := (by rw [hA29]; exact hr29); rw [← hy29, ← hA29, ← hc29] at hcut29; have HR141 := Aside0.mk hr29; have HC141 := Aside0.mk (show y138.length ≤ c29 from by rw [hy29, hc29]; exact Nat.sub_le_sub_right hroom29 _); clear hr29 hC29 hroom29 hi029 hsz29 hc29; have KY29 := Aside0.mk hy29; have KA29 := Aside0.mk hA29; clear hy29 hA29; have KL29 := Aside0.mk (show 1 ≤ y130.length from by omega); replace q29 := eq_true q29) | ((with_reducible refine gate_builtin (b := .append) (xs := #[.tmp 55, .tmp 57]) rfl ?_); at_builtin; refine Kd.R_append_rows k32 w.heap.size rfl (.tmp 55) (.tmp 57) 23 32 (.agg #[(.int .i64 0), (.int .i64 0)]) 16 rfl Try.underlying23 info32 rfl (by decide) (by omega) v136 y135 y138 _ _ _ (fun k_ => some k_ ≠ (.slice Ao30 y130.length co30 : Value).ownBlock) (fun _ => False) rfl rfl ?aO ?aR (fun _ _ h => h) (fun _ h => h.elim) ?aF (Below.refl _ _) ?aS ?aL ?_; (case aR => exact qq57); (case aF => exact (fun k_ hk => Kd.fresh' (Kd.R_lt (qq9 HO_7.out)) k_ hk)); (case aO => exact (qq37 HO137.out)); (case aS => exact qq69); (case aL => have := LMc18.out; omega); intro v143 w31 ho hb hg hat; rw [← Ny142.out] at ho; have n0_ := Aside0.mk (Kd.R_after (ok := (fun _ => True)) (qq9 HO_7.out) hg hat); have n1_ := Aside0.mk (IsS81.grown qq7 hg (IsS81.own_ne HI0.out HO137.out (by decide))); have n2_ := Aside0.mk (below_weaken (qq5 HB.out HI0.out) HL.out hb); have n3_ := Aside0.mk (KeepBut.trans qq4 (KeepBut.of_grown hg g) (Kd.R_base2 HO137.out)); have n4_ := Aside0.mk ((show Kd.C k32 w31 A29 y138.length y138 from by rw [Ny138.out, KA29.out]; exact Kd.C_drop (m := 1) (c := co30) ((Kd.R_reads' (Kd.R_after (ok := (fun _ => True)) (qq9 HO_7.out) hg hat)).2.2) KL29.out ((Kd.R_reads' (Kd.R_after (ok := (fun _ => True)) (qq9 HO_7.out) hg hat)).2.1))); have n5_ := Aside0.mk (ho); clear HO_7; clear HI0; clear HB; clear HK; clear HR141; clear HO137; have HO_7 := n0_; have HI0 := n1_; have HB := n2_; have HK := n3_; have HR141 := n4_; have HO144 := n5_; clear n0_ n1_ n2_ n3_ n4_ n5_; clear ho hb hg hat) | ((with_reducible refine gate_callee (f := 48) rfl ?_); refine goesL_ (some 60) rfl rfl Try.func48 (by kernel_rfl) rfl #[.pointer (some ⟨g, 0, none⟩), .int .i64 3] rfl qq3 ?_; (with_reducible refine (spec_l6Rd_pick.calls kj5 g s0_0 x1001_5 3 t145 t146 w0 _ ?side1 ?side2 A19.out).mono ?_); (case side1 => exact qq7); (case side2 => exact qq5 HB.out HI0.out); rintro e w32 ⟨rfl, hi, hb, hk⟩; refine ⟨_, rfl, ?_⟩; have n0_ := Aside0.mk (Kd.R_mono (Kd.R_keep (IsS81.apart (show IsS81 w0 _ g s0_0 x1001_5 from by repeat (first | (with_reducible first | exact HI0.out | apply IsS81.alloc | apply IsS81.drewN | apply IsS81.drew | apply IsS81.set_1) | exact HI0.out)) (qq9 HO_7.out) (by decide)) hk (fun _ h => h.2)) (fun _ h => h.1)); have n1_ := Aside0.mk (Kd.R_mono (Kd.R_keep (IsS81.apart (show IsS81 w0 _ g s0_0 x1001_5 from by repeat (first | (with_reducible first | exact HI0.out | apply IsS81.alloc | apply IsS81.drewN | apply IsS81.drew | apply IsS81.set_1) | exact HI0.out)) (qq9 HO144.out) (by decide)) hk (fun _ h => h.2)) (fun _ h => h.1)); have n2_ := Aside0.mk (KeepBut.trans qq4 hk (.inl rfl)); have n3_ := Aside0.mk (hb); have n4_ := Aside0.mk (hi); clear HO_7; clear HO144; clear HK; clear HB; clear HI0; have HO_7 := n0_; have HO144 := n1_; have HK := n2_; have HB := n3_; have HI0 := n4_; clear n0_ n1_ n2_ n3_ n4_; (try clear hb); (try clear hb2); (try clear hk); (try clear hi)))
              go_ret
              exact ⟨_, qq13, Kd.Q_of_R (qq64 HO144.out), qq7, qq5 HB.out HI0.out, qq4⟩
          · rw [if_neg c18] at H
            exact absurd H (by simp)
        · rw [if_neg c17] at H
          exact absurd H (by simp)
      · replace c16 := Bool.eq_false_iff.mpr c16
        subst c16
        have H1 : ((spec_l6Rd_pick.f kj5 s0_0 x1001_5 3).bind fun bt147 => (if bt147.1 = 0 then (if 1 ≤ y130.length ∧ y130.length ≤ 100 then (some (y130.drop 1 ++ [rd_T32 y130 0], bt147.2)) else none) else (some (y130, bt147.2)))) = some (r1, r2) := by rw [if_neg (show ¬ (false = true) by decide)] at H; exact H
        clear H
        have H := H1
        clear H1
        replace H := Option.bind_eq_some_iff.mp H
        obtain ⟨⟨t147, t148⟩, A330, H⟩ := H
        replace H : (if t147 = 0 then (if 1 ≤ y130.length ∧ y130.length ≤ 100 then (some (y130.drop 1 ++ [rd_T32 y130 0], t148)) else none) else (some (y130, t148))) = some (r1, r2) := H
        have A33 := Aside0.mk A330
        clear A330
        by_cases c34 : t147 = 0
        · rw [if_pos c34] at H
          have c34b0 : (t147 == 0) = true := beq_iff_eq.mpr c34
          have c34b1 : (t147 != 0) = false := bne_eq_false_iff_eq.mpr c34
          clear c34
          by_cases hl9 : 1 ≤ y130.length ∧ y130.length ≤ 100
          case neg => rw [if_neg hl9] at H; exact absurd H (by simp)
          rw [if_pos hl9] at H
          simp only [Option.some.injEq, Prod.mk.injEq] at H
          obtain ⟨hr1, rfl⟩ := H; have HR1 := Aside0.mk hr1; clear hr1
          go_wp2_with (first | ((with_reducible refine gate_callee (f := 48) rfl ?_); refine goesL_ (some 60) rfl rfl Try.func48 (by kernel_rfl) rfl #[.pointer (some ⟨g, 0, none⟩), .int .i64 3] rfl qq3 ?_; (with_reducible refine (spec_l6Rd_pick.calls kj5 g s0_0 x1001_5 3 t147 t148 w0 _ ?side1 ?side2 A33.out).mono ?_); (case side1 => exact qq7); (case side2 => exact qq5 HB.out HI0.out); rintro e w35 ⟨rfl, hi, hb, hk⟩; refine ⟨_, rfl, ?_⟩; have n0_ := Aside0.mk (Kd.R_mono (Kd.R_keep (IsS81.apart (show IsS81 w0 _ g s0_0 x1001_5 from by repeat (first | (with_reducible first | exact HI0.out | apply IsS81.alloc | apply IsS81.drewN | apply IsS81.drew | apply IsS81.set_1) | exact HI0.out)) (qq9 HO_7.out) (by decide)) hk (fun _ h => h.2)) (fun _ h => h.1)); have n1_ := Aside0.mk (KeepBut.trans qq4 hk (.inl rfl)); have n2_ := Aside0.mk (hb); have n3_ := Aside0.mk (hi); clear HO_7; clear HK; clear HB; clear HI0; have HO_7 := n0_; have HK := n1_; have HB := n2_; have HI0 := n3_; clear n0_ n1_ n2_ n3_; (try clear hb); (try clear hb2); (try clear hk); (try clear hi)))
          obtain ⟨WW, hWW, hR9⟩ : ∃ WW : World, WW = _ ∧ Kd.R k32 32 WW w.heap.size (fun _ => True) _ y130 := ⟨_, rfl, Kd.R_mono (ok' := fun _ => True) HO_7.out (fun _ _ => trivial)⟩
          subst hWW
          obtain ⟨gq, cq, eq_, _, _, _⟩ := Kd.R_form hR9 (by omega)
          (first | subst eq_ | (injection eq_ with ea_ en_ ec_; (first | subst ea_ | (injection ea_ with ea_; subst ea_)); subst ec_; clear en_))
          have hQ9 := Kd.Q_of_R hR9
          have hc9 := (Kd.R_reads' hR9).2.1
          have hd9 := Kd.Q_drop (k := 1) hQ9 (by omega)
          obtain ⟨vc, hvc⟩ : ∃ vc, Value.slice (if cq = 1 then (some ⟨gq, 0, none⟩ : Option Addr) else (some ⟨gq, 0, none⟩ : Option Addr).map (·.add (1 * 2))) (y130.length - 1) (cq - 1) = vc := ⟨_, rfl⟩
          replace hd9 : Kd.Q k32 32 WW w.heap.size (fun _ => True) vc (y130.drop 1) := by rw [← hvc]; exact hd9
          obtain ⟨i9, hi9, _, hsz9, _⟩ := info_parts info32
          have hcut9 : ∀ W : World, (Instr.slice 23 (.slice (some ⟨gq, 0, none⟩) y130.length cq) (some (.int .i64 1)) none none).run Try.prog W = .ok vc W := fun W => by rw [← hvc]; exact cut_from (P := Try.prog) 23 32 .i64 Try.underlying23 hi9 2 hsz9 (some ⟨gq, 0, none⟩) y130.length cq 1 (by decide) (by omega) W
          obtain ⟨ad9, ead9, hx9, hy9⟩ := at_T32 (Kd.R_reads' hR9).2.2 0 (by decide) (by omega)
          cases ead9
          have hx9' : WW.cell? ⟨gq, 0, none⟩ = some (.int .i64 (rd_T32 y130 0).f0) := by simpa [Addr.add] using hx9
          have hy9' : WW.cell? ⟨gq, 1, none⟩ = some (.int .i64 (rd_T32 y130 0).f1) := by simpa [Addr.add] using hy9
          have hbs9 := HK.out.1
          have HQ9 := Aside0.mk hd9
          obtain ⟨p9, hp9⟩ : ∃ p, rd_T32 y130 0 = p := ⟨_, rfl⟩
          rw [hp9] at hx9' hy9'
          obtain ⟨y9, hy9_⟩ : ∃ y_, y130.drop 1 = y_ := ⟨_, rfl⟩
          have hyl9 : y9.length ≤ 100 := by rw [← hy9_, List.length_drop]; omega
          rw [hy9_] at HQ9
          clear hR9 hQ9 hd9 hvc hx9 hy9
          refine wpIn_wide (n := 0) |>.1 ?_
          have HF := Drawn.wide_plain Try.prog
          refine Drawn.act_name fun A0 hA0 => ?_
          obtain ⟨VS, hVS⟩ : ∃ VS : Value → Value → List (Option Tmp × Value), (fun u u' => [(some 62, .slice (some ⟨gq, 0, none⟩) y130.length cq), (some 63, vc), (some 64, .slice (some ⟨gq, 0, none⟩) y130.length cq), (some 65, .pointer (some ⟨gq, 0, none⟩)), (some 66, .agg #[.int .i64 p9.f0, .int .i64 p9.f1]), (some 67, .slice (some ⟨WW.heap.size, 0, none⟩) 1 1), (some 68, u), (some 2, u')]) = VS := ⟨_, rfl⟩
          have HN : ∀ u u', ((VS u u').filterMap (·.1)).Nodup := fun u u' => by rw [← hVS]; exact (show List.Nodup [(62 : Tmp), (63 : Tmp), (64 : Tmp), (65 : Tmp), (66 : Tmp), (67 : Tmp), (68 : Tmp), (2 : Tmp)] by decide)
          have E7 : ∀ (u u' : Value) (L : List Bool), (Drawn.fill (VS u u') L A0).tmps[7]?.getD undef = .slice (some ⟨gq, 0, none⟩) y130.length cq := fun u u' L => Drawn.fill_old _ _ _ qq72 (by rw [← hA0]; rfl)
          have E62 : ∀ (u u' : Value) (L : List Bool), L[0]? = some true → (Drawn.fill (VS u u') L A0).tmps[62]?.getD undef = .slice (some ⟨gq, 0, none⟩) y130.length cq := fun u u' L h => Drawn.fill_at (HN u u') (j := 0) (by rw [← hVS]; rfl) h (by rw [← hA0]; simp)
          have E63 : ∀ (u u' : Value) (L : List Bool), L[1]? = some true → (Drawn.fill (VS u u') L A0).tmps[63]?.getD undef = vc := fun u u' L h => Drawn.fill_at (HN u u') (j := 1) (by rw [← hVS]; rfl) h (by rw [← hA0]; simp)
          have E64 : ∀ (u u' : Value) (L : List Bool), L[2]? = some true → (Drawn.fill (VS u u') L A0).tmps[64]?.getD undef = .slice (some ⟨gq, 0, none⟩) y130.length cq := fun u u' L h => Drawn.fill_at (HN u u') (j := 2) (by rw [← hVS]; rfl) h (by rw [← hA0]; simp)
          have E65 : ∀ (u u' : Value) (L : List Bool), L[3]? = some true → (Drawn.fill (VS u u') L A0).tmps[65]?.getD undef = .pointer (some ⟨gq, 0, none⟩) := fun u u' L h => Drawn.fill_at (HN u u') (j := 3) (by rw [← hVS]; rfl) h (by rw [← hA0]; simp)
          have E66 : ∀ (u u' : Value) (L : List Bool), L[4]? = some true → (Drawn.fill (VS u u') L A0).tmps[66]?.getD undef = .agg #[.int .i64 p9.f0, .int .i64 p9.f1] := fun u u' L h => Drawn.fill_at (HN u u') (j := 4) (by rw [← hVS]; rfl) h (by rw [← hA0]; simp)
          have E67 : ∀ (u u' : Value) (L : List Bool), L[5]? = some true → (Drawn.fill (VS u u') L A0).tmps[67]?.getD undef = .slice (some ⟨WW.heap.size, 0, none⟩) 1 1 := fun u u' L h => Drawn.fill_at (HN u u') (j := 5) (by rw [← hVS]; rfl) h (by rw [← hA0]; simp)
          have E68 : ∀ (u u' : Value) (L : List Bool), L[6]? = some true → (Drawn.fill (VS u u') L A0).tmps[68]?.getD undef = u := fun u u' L h => Drawn.fill_at (HN u u') (j := 6) (by rw [← hVS]; rfl) h (by rw [← hA0]; simp)
          obtain ⟨V, hV⟩ : ∃ V : List Bool → List (Option Tmp × Value) → World → Prop, (fun L vs w' => ∃ u u', vs = VS u u' ∧ (L[7]? = some true → u' = u) ∧ (L[6]? = some true → Kd.Q k32 32 w' w.heap.size (fun _ => True) u (y9 ++ [p9]) ∧ Below w.heap.size WW w' ∧ WW.grownBy w' vc.ownBlock) ∧ (L[6]? = some false → L[5]? = some true → w' = WW.drew.alloc (.cells #[.int .i64 p9.f0, .int .i64 p9.f1] 32)) ∧ (L[5]? = some false → w' = WW.drew)) = V := ⟨_, rfl⟩
          have keep : ∀ (L : List Bool) (u u' : Value) (w' : World) (i : Nat), i < 5 → V L (VS u u') w' → V (L.set i true) (VS u u') w' := by
            intro L u u' w' i hi h
            rw [← hV] at h ⊢
            obtain ⟨u1, u2, h1, h2⟩ := h
            refine ⟨u1, u2, h1, ?_⟩
            rw [List.getElem?_set_ne (by omega), List.getElem?_set_ne (by omega), List.getElem?_set_ne (by omega)]
            exact h2
          refine Drawn.drawn_any (by kernel_rfl) (Drawn.early_spec (by kernel_rfl)) (show List.Nodup [(62 : Tmp), (63 : Tmp), (64 : Tmp), (65 : Tmp), (66 : Tmp), (67 : Tmp), (68 : Tmp), (2 : Tmp)] by decide) V (fun L vs w' h => by rw [← hV] at h; obtain ⟨u, u', rfl, _⟩ := h; rw [← hVS]; rfl) (VS undef undef) qq74 ?_ ?_
          · intro i o vs L w' ho hl hli hpre hcl hVL K hK
            have hVL' := hVL
            rw [← hV] at hVL'
            obtain ⟨u, u', rfl, hu7, hu6, hu56, hu5⟩ := hVL'
            have hii : i = 0 ∨ i = 1 ∨ i = 2 ∨ i = 3 ∨ i = 4 ∨ i = 5 ∨ i = 6 ∨ i = 7 := by have hq := (Array.getElem?_eq_some_iff.1 ho).1; simp at hq; omega
            have dn : ∀ j, j < 8 → L[j]? ≠ some true → L[j]? = some false := fun j hj h => by rw [List.getElem?_eq_getElem (by rw [hl]; exact hj)] at h ⊢; cases hc : L[j]'(by rw [hl]; exact hj) <;> simp_all
            rcases hii with rfl | rfl | rfl | rfl | rfl | rfl | rfl | rfl
            · obtain rfl := Option.some.inj ho
              have e7 := E7 u u' L
              refine Drawn.st_val HF rfl (by simp) rfl (v := .slice (some ⟨gq, 0, none⟩) y130.length cq) (w' := w') ?_ (hK _ w' qq80)
              generalize Drawn.fill (VS u u') L A0 = A at e7 ⊢
              simp [execOp, go_sem, e7]
            · obtain rfl := Option.some.inj ho
              have e62 := E62 u u' L (hpre ⟨0, .data⟩ (by simp) rfl)
              refine Drawn.st_val HF rfl (by simp) rfl (v := vc) (w' := w') ?_ (hK _ w' qq81)
              generalize Drawn.fill (VS u u') L A0 = A at e62 ⊢
              have s62 := (Drawn.eval_tmp A 62).trans e62
              change (execOp A.eval { dst := some 63, op := Op.slice 23 (Operand.tmp 62) (some (Operand.const (Value.int IntKind.i64 1))) none none, type := 23, pos := "l92_draw.go:128", after := #[{ on := 0, ground := Ground.data }], guard := none }).run Try.prog w' = _
              unfold execOp
              simp only [Option.map_some, Option.map_none, s62, show A.eval (.const (.int .i64 1)) = .int .i64 1 from rfl, Sem.run_bind, Sem.run_pure]
              rw [show (Instr.sliceAt 23 (.slice (some ⟨gq, 0, none⟩) y130.length cq) (some (.int .i64 1)) none none).run Try.prog w' = .ok vc w' from hcut9 w']
              rfl
            · obtain rfl := Option.some.inj ho
              have e7 := E7 u u' L
              refine Drawn.st_val HF rfl (by simp) rfl (v := .slice (some ⟨gq, 0, none⟩) y130.length cq) (w' := w') ?_ (hK _ w' qq82)
              generalize Drawn.fill (VS u u') L A0 = A at e7 ⊢
              simp [execOp, go_sem, e7]
            · obtain rfl := Option.some.inj ho
              have e64 := E64 u u' L (hpre ⟨2, .data⟩ (by simp) rfl)
              refine Drawn.st_val HF rfl (by simp) rfl (v := .pointer (some ⟨gq, 0, none⟩)) (w' := w') ?_ (hK _ w' qq83)
              have hpos : 0 < y130.length := by omega
              generalize Drawn.fill (VS u u') L A0 = A at e64 ⊢
              simp [execOp, go_sem, e64, hpos, Addr.add]
            · obtain rfl := Option.some.inj ho
              have e65 := E65 u u' L (hpre ⟨3, .data⟩ (by simp) rfl)
              have n5 := dn 5 (by decide) (fun h5 => by have h4 := hcl 5 _ rfl h5 ⟨4, .data⟩ (by simp) rfl; rw [hli] at h4; cases h4)
              obtain rfl := hu5 n5
              have c1 : WW.drew.cell? ⟨gq, 0, none⟩ = _ := hx9'
              have c2 : WW.drew.cell? ⟨gq, 1, none⟩ = _ := hy9'
              refine Drawn.st_val HF rfl (by simp) rfl (v := .agg #[.int .i64 p9.f0, .int .i64 p9.f1]) (w' := WW.drew) ?_ (hK _ WW.drew qq79)
              generalize Drawn.fill (VS u u') L A0 = A at e65 ⊢
              simp [execOp, go_sem, e65, c1, c2]
            · obtain rfl := Option.some.inj ho
              have e66 := E66 u u' L (hpre ⟨4, .data⟩ (by simp) rfl)
              have n6 := dn 6 (by decide) (fun h6 => by have h5 := hcl 6 _ rfl h6 ⟨5, .data⟩ (by simp) rfl; rw [hli] at h5; cases h5)
              obtain rfl := hu5 hli
              refine Drawn.st_val HF rfl (by simp) rfl (v := .slice (some ⟨WW.heap.size, 0, none⟩) 1 1) (w' := WW.drew.alloc (.cells #[.int .i64 p9.f0, .int .i64 p9.f1] 32)) ?_ (hK _ _ ?_)
              · generalize Drawn.fill (VS u u') L A0 = A at e66 ⊢
                simp [execOp, go_sem, e66]
              · rw [← hV]
                refine ⟨u, u', by rw [← hVS]; rfl, fun h => hu7 qq75, fun h => ?_, fun _ _ => rfl, fun h => ?_⟩
                · rw [List.getElem?_set_ne (by decide), n6] at h; cases h
                · rw [List.getElem?_set_self (by rw [hl]; decide)] at h; cases h
            · obtain rfl := Option.some.inj ho
              have e63 := E63 u u' L (hpre ⟨1, .data⟩ (by simp) rfl)
              have h5t := hpre ⟨5, .data⟩ (by simp) rfl
              have e67 := E67 u u' L h5t
              obtain rfl := hu56 hli h5t
              obtain ⟨v1, w1, hr9, q1, q2, q3, _⟩ := Kd.Q_run (P := Try.prog) (W := WW.drew) k32 (w0 := WW) w.heap.size 23 23 32 (.agg #[(.int .i64 0), (.int .i64 0)]) 16 Try.underlying23 info32 rfl (by decide) (by omega) vc y9 p9 _ (fun _ => True) (fun _ => False) (k32_mkM _ _ _ p9) (fun _ h => h.elim) (fun _ _ => trivial) HQ9.out (below_drew1 (Below.refl _ _)) hbs9 (by omega)
              refine Drawn.st_val HF rfl (by simp) rfl (v := v1) (w' := w1) ?_ (hK _ _ ?_)
              · generalize Drawn.fill (VS u u') L A0 = A at e63 e67 ⊢
                have s63 := (Drawn.eval_tmp A 63).trans e63
                have s67 := (Drawn.eval_tmp A 67).trans e67
                change (execOp A.eval { dst := some 68, op := Op.call { callee := Callee.builtin Builtin.append, args := #[Operand.tmp 63, Operand.tmp 67], argTypes := #[23, 23] }, type := 23, pos := "l92_draw.go:128", after := #[{ on := 1, ground := Ground.data }, { on := 5, ground := Ground.data }], guard := none }).run Try.prog _ = _
                unfold execOp
                simp only [resolve, invoke, builtin, Sem.run_bind, Sem.run_pure, Result.andThen_ok, List.map_toArray, List.map_cons, List.map_nil, s63, s67]
                rw [show WW.drew.heap.size = WW.heap.size from rfl] at hr9
                rw [show (#[.int .i64 p9.f0, .int .i64 p9.f1] : Array Value) = [.int .i64 p9.f0, .int .i64 p9.f1].toArray from rfl, hr9]
                rfl
              · rw [← hV]
                have n7 := dn 7 (by decide) (fun h7 => by have h6 := hcl 7 _ rfl h7 ⟨6, .data⟩ (by simp) rfl; rw [hli] at h6; cases h6)
                refine ⟨v1, u', by rw [← hVS]; rfl, fun h => ?_, fun _ => ⟨q1, q2, World.grownBy.trans (grown_of_below (below_drew1 (Below.refl WW.heap.size WW)) _) q3⟩, fun h => ?_, fun h => ?_⟩
                · rw [List.getElem?_set_ne (by decide), n7] at h; cases h
                · rw [List.getElem?_set_self (by rw [hl]; decide)] at h; cases h
                · rw [List.getElem?_set_ne (by decide), h5t] at h; cases h
            · obtain rfl := Option.some.inj ho
              have h6t := hpre ⟨6, .data⟩ (by simp) rfl
              have e68 := E68 u u' L h6t
              refine Drawn.st_val HF rfl (by simp) rfl (v := u) (w' := w') ?_ (hK _ w' ?_)
              · generalize Drawn.fill (VS u u') L A0 = A at e68 ⊢
                simp [execOp, go_sem, e68]
              · rw [← hV]
                refine ⟨u, u, by rw [← hVS]; rfl, fun _ => rfl, fun _ => hu6 h6t, fun h => ?_, fun h => hu5 qq75⟩
                rw [List.getElem?_set_ne (by decide), h6t] at h; cases h
          · intro vs w' hVL
            rw [← hV] at hVL
            obtain ⟨u, u', rfl, hu7, hu6, _, _⟩ := hVL
            obtain rfl := hu7 rfl
            obtain ⟨q1, q2, q3⟩ := hu6 rfl
            rw [← hVS, ← hA0]
            simp only [List.size_toArray, List.length_cons, List.length_nil, Nat.reduceAdd, List.replicate, Drawn.fill, if_true, Act.put, List.setIfInBounds_toArray, List.set_cons_succ, List.set_cons_zero]
            have HIf := Aside0.mk (IsS81.grown HI0.out q3 (IsS81.own_neQ HI0.out HQ9.out (by decide)))
            have HBf := Aside0.mk (below_weaken HB.out HL.out q2)
            have HKf := Aside0.mk (KeepBut.trans HK.out (KeepBut.of_grown q3 g) (Kd.Q_base2 HQ9.out))
            have HQf := Aside0.mk q1
            clear q1 q2 q3 hu6 HN keep E7 E62 E63 E64 E65 E66 E67 E68 hVS hV hA0
            go_wp2
            go_ret
            exact ⟨_, rfl, by rw [← HR1.out, hy9_, hp9]; exact HQf.out, HIf.out, HBf.out, HKf.out⟩
        · rw [if_neg c34] at H
          have c34b0 : (t147 == 0) = false := beq_eq_false_iff_ne.mpr c34
          have c34b1 : (t147 != 0) = true := bne_iff_ne.mpr c34
          simp only [Option.some.injEq, Prod.mk.injEq] at H
          obtain ⟨rfl, rfl⟩ := H
          go_wp2_with (first | ((with_reducible refine gate_callee (f := 48) rfl ?_); refine goesL_ (some 60) rfl rfl Try.func48 (by kernel_rfl) rfl #[.pointer (some ⟨g, 0, none⟩), .int .i64 3] rfl qq3 ?_; (with_reducible refine (spec_l6Rd_pick.calls kj5 g s0_0 x1001_5 3 t147 t148 w0 _ ?side1 ?side2 A33.out).mono ?_); (case side1 => exact qq7); (case side2 => exact qq5 HB.out HI0.out); rintro e w36 ⟨rfl, hi, hb, hk⟩; refine ⟨_, rfl, ?_⟩; have n0_ := Aside0.mk (Kd.R_mono (Kd.R_keep (IsS81.apart (show IsS81 w0 _ g s0_0 x1001_5 from by repeat (first | (with_reducible first | exact HI0.out | apply IsS81.alloc | apply IsS81.drewN | apply IsS81.drew | apply IsS81.set_1) | exact HI0.out)) (qq9 HO_7.out) (by decide)) hk (fun _ h => h.2)) (fun _ h => h.1)); have n1_ := Aside0.mk (KeepBut.trans qq4 hk (.inl rfl)); have n2_ := Aside0.mk (hb); have n3_ := Aside0.mk (hi); clear HO_7; clear HK; clear HB; clear HI0; have HO_7 := n0_; have HK := n1_; have HB := n2_; have HI0 := n3_; clear n0_ n1_ n2_ n3_; (try clear hb); (try clear hb2); (try clear hk); (try clear hi)))
          go_ret
          exact ⟨_, qq13, Kd.Q_of_R (qq9 HO_7.out), qq7, qq5 HB.out HI0.out, qq4⟩

end Go.Proofs.Ytgdhgncdpmalcaa.Q
