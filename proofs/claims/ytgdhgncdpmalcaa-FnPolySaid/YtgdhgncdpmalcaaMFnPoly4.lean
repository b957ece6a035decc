/- Part 4 of what the proof of this law rests on: the functions of the translation as plain Lean functions with their walks, and the plain laws behind. -/
import Derived.Below
import Derived.LaidEqlPtr
import Derived.Lib.Builder
import Derived.Outline
import Derived.Sort.LoopGhostIn
import Derived.Test.YtgdhgncdpmalcaaMFnPoly3
namespace Go.Proofs.Ytgdhgncdpmalcaa.Q
open Go.RowKit Go.Proofs.YtgdhgncdpmalcaaW.PrintWords Go.Proofs.YtgdhgncdpmalcaaW.PrintLast Go.Proofs.YtgdhgncdpmalcaaW.PrintMore
attribute [local go_sem] max2_int min2_int max_two min_two max_three min_three max_four min_four
set_option linter.unusedVariables false
set_option linter.unusedSimpArgs false

/-! ### spec_l2On: function 50 -/
def spec_l2On.f (a0_0 : Int) (a0_1 : Int) (a1_0 : Int) (a1_1 : Int) (a2_0 : Int) (a2_1 : Int) : Option (Bool) := (spec_l2Step.f a0_0 a0_1 a1_0 a1_1).bind fun bt303 => ((spec_l2Step.f a0_0 a0_1 a2_0 a2_1).bind fun bt305 => ((spec_l2Cross.f bt303.1 bt303.2 bt305.1 bt305.2).bind fun t307 => (if t307 = 0 then ((spec_l6In.f a2_0 (mn a0_0 a1_0) (mx a0_0 a1_0)).bind fun t308 => (if t308 = true then ((spec_l6In.f a2_1 (mn a0_1 a1_1) (mx a0_1 a1_1)).bind fun t309 => (some t309)) else (some false))) else (some false))))
def spec_l2On.T1 : Bool × List (List Nat × List Nat) := (true, [([], []), ([], []), ([0, 1], [0, 1]), ([], []), ([], []), ([3, 4, 2], [3, 4]), ([2, 5, 5], [2, 5]), ([6], [6])])
def spec_l2On.B1 : List Nat := [0, 0, 3, 0, 0, 31, 63, 127]
theorem spec_l2On.tab1 : rtab .any (opsOf Try.f50 1) = spec_l2On.T1 := by kernel_rfl
theorem spec_l2On.bits1 : waitsOk spec_l2On.T1.2 spec_l2On.B1 = true := by kernel_rfl
set_option maxHeartbeats 8000000 in
set_option maxRecDepth 100000 in
theorem spec_l2On.calls (a0_0 : Int) (a0_1 : Int) (a1_0 : Int) (a1_1 : Int) (a2_0 : Int) (a2_1 : Int) (r : Bool) (w : World) (h : spec_l2On.f a0_0 a0_1 a1_0 a1_1 a2_0 a2_1 = some r) :
    Calls Try.prog 50 #[.agg #[.int .i64 a0_0, .int .i64 a0_1], .agg #[.int .i64 a1_0, .int .i64 a1_1], .agg #[.int .i64 a2_0, .int .i64 a2_1]] w fun e w' => e = .returned (.bool r) ∧ Below w.heap.size w w' := by
  have hu32 := Try.underlying32
  have HB := Aside0.mk (Below.refl w.heap.size w)
  have H : ((spec_l2Step.f a0_0 a0_1 a1_0 a1_1).bind fun bt303 => ((spec_l2Step.f a0_0 a0_1 a2_0 a2_1).bind fun bt305 => ((spec_l2Cross.f bt303.1 bt303.2 bt305.1 bt305.2).bind fun t307 => (if t307 = 0 then ((spec_l6In.f a2_0 (mn a0_0 a1_0) (mx a0_0 a1_0)).bind fun t308 => (if t308 = true then ((spec_l6In.f a2_1 (mn a0_1 a1_1) (mx a0_1 a1_1)).bind fun t309 => (some t309)) else (some false))) else (some false))))) = some r := h
  clear h
  replace H := Option.bind_eq_some_iff.mp H
  obtain ⟨⟨t303, t304⟩, A40, H⟩ := H
  replace H : ((spec_l2Step.f a0_0 a0_1 a2_0 a2_1).bind fun bt305 => ((spec_l2Cross.f t303 t304 bt305.1 bt305.2).bind fun t307 => (if t307 = 0 then ((spec_l6In.f a2_0 (mn a0_0 a1_0) (mx a0_0 a1_0)).bind fun t308 => (if t308 = true then ((spec_l6In.f a2_1 (mn a0_1 a1_1) (mx a0_1 a1_1)).bind fun t309 => (some t309)) else (some false))) else (some false)))) = some r := H
  have A4 := Aside0.mk A40
  clear A40
  replace H := Option.bind_eq_some_iff.mp H
  obtain ⟨⟨t305, t306⟩, A50, H⟩ := H
  replace H : ((spec_l2Cross.f t303 t304 t305 t306).bind fun t307 => (if t307 = 0 then ((spec_l6In.f a2_0 (mn a0_0 a1_0) (mx a0_0 a1_0)).bind fun t308 => (if t308 = true then ((spec_l6In.f a2_1 (mn a0_1 a1_1) (mx a0_1 a1_1)).bind fun t309 => (some t309)) else (some false))) else (some false))) = some r := H
  have A5 := Aside0.mk A50
  clear A50
  replace H := Option.bind_eq_some_iff.mp H
  obtain ⟨t307, A60, H⟩ := H
  replace H : (if t307 = 0 then ((spec_l6In.f a2_0 (mn a0_0 a1_0) (mx a0_0 a1_0)).bind fun t308 => (if t308 = true then ((spec_l6In.f a2_1 (mn a0_1 a1_1) (mx a0_1 a1_1)).bind fun t309 => (some t309)) else (some false))) else (some false)) = some r := H
  have A6 := Aside0.mk A60
  clear A60
  by_cases c7 : t307 = 0
  · rw [if_pos c7] at H
    have c7b0 : (t307 == 0) = true := beq_iff_eq.mpr c7
    have c7b1 : (t307 != 0) = false := bne_eq_false_iff_eq.mpr c7
    clear c7
    obtain ⟨ji8, hji8⟩ : ∃ j_ : Int, (mn a0_0 a1_0) = j_ := ⟨_, rfl⟩
    replace H : ((spec_l6In.f a2_0 (ji8) (mx a0_0 a1_0)).bind fun t308 => (if t308 = true then ((spec_l6In.f a2_1 (mn a0_1 a1_1) (mx a0_1 a1_1)).bind fun t309 => (some t309)) else (some false))) = some r := by first | (rw [hji8] at H; exact H) | (simp only [hji8] at H ⊢; exact H)
    (try rw [hji8] at A4)
    (try rw [hji8] at A5)
    (try rw [hji8] at A6)
    have hji8_ : (if a1_0 < a0_0 then a1_0 else a0_0) = ji8 := hji8
    obtain ⟨ji9, hji9⟩ : ∃ j_ : Int, (mx a0_0 a1_0) = j_ := ⟨_, rfl⟩
    replace H : ((spec_l6In.f a2_0 (ji8) (ji9)).bind fun t308 => (if t308 = true then ((spec_l6In.f a2_1 (mn a0_1 a1_1) (mx a0_1 a1_1)).bind fun t309 => (some t309)) else (some false))) = some r := by first | (rw [hji9] at H; exact H) | (simp only [hji9] at H ⊢; exact H)
    (try rw [hji9] at A4)
    (try rw [hji9] at A5)
    (try rw [hji9] at A6)
    have hji9_ : (if a0_0 < a1_0 then a1_0 else a0_0) = ji9 := hji9
    replace H := Option.bind_eq_some_iff.mp H
    obtain ⟨t308, A100, H⟩ := H
    replace H : (if t308 = true then ((spec_l6In.f a2_1 (mn a0_1 a1_1) (mx a0_1 a1_1)).bind fun t309 => (some t309)) else (some false)) = some r := H
    have A10 := Aside0.mk A100
    clear A100
    by_cases c11 : t308 = true
    · subst c11
      have H1 : ((spec_l6In.f a2_1 (mn a0_1 a1_1) (mx a0_1 a1_1)).bind fun t309 => (some t309)) = some r := by rw [if_pos rfl] at H; exact H
      clear H
      have H := H1
      clear H1
      obtain ⟨ji12, hji12⟩ : ∃ j_ : Int, (mn a0_1 a1_1) = j_ := ⟨_, rfl⟩
      replace H : ((spec_l6In.f a2_1 (ji12) (mx a0_1 a1_1)).bind fun t309 => (some t309)) = some r := by first | (rw [hji12] at H; exact H) | (simp only [hji12] at H ⊢; exact H)
      (try rw [hji12] at A4)
      (try rw [hji12] at A5)
      (try rw [hji12] at A6)
      (try rw [hji12] at A10)
      have hji12_ : (if a1_1 < a0_1 then a1_1 else a0_1) = ji12 := hji12
      obtain ⟨ji13, hji13⟩ : ∃ j_ : Int, (mx a0_1 a1_1) = j_ := ⟨_, rfl⟩
      replace H : ((spec_l6In.f a2_1 (ji12) (ji13)).bind fun t309 => (some t309)) = some r := by first | (rw [hji13] at H; exact H) | (simp only [hji13] at H ⊢; exact H)
      (try rw [hji13] at A4)
      (try rw [hji13] at A5)
      (try rw [hji13] at A6)
      (try rw [hji13] at A10)
      have hji13_ : (if a0_1 < a1_1 then a1_1 else a0_1) = ji13 := hji13
      replace H := Option.bind_eq_some_iff.mp H
      obtain ⟨t309, A140, H⟩ := H
      replace H : (some t309) = some r := H
      have A14 := Aside0.mk A140
      clear A140
      obtain rfl := Option.some.inj H
      go_enter Try.func50, Try.ntmps50
      try go_wp2_with (first | ((with_reducible refine gate_dst (N := 3) rfl ?_); (try (refine gate_guard (by rfl) ?_; dsimp only)); refine box_event ?hg (N := 3) ?hd (cs := #[.int .i64 a0_0, .int .i64 a0_1]) (t := 32) ?hr ?_; (case hd => rfl); (case hg => rfl); (case hr => exact qq21); intro gb300 hg w15 hbox hb; have n0_ := Aside0.mk (below_step qq1 hb); have n1_ := Aside0.mk (hbox); have n2_ := Aside0.mk ((qq31 : w.heap.size ≤ gb300)); have n3_ := Aside0.mk ((qq31 : w.heap.size ≤ gb300)); clear HB; have HB := n0_; have BK300 := n1_; have GW300 := n2_; have GE300 := n3_; clear n0_ n1_ n2_ n3_; clear hb hbox hg) | ((with_reducible refine gate_dst (N := 4) rfl ?_); (try (refine gate_guard (by rfl) ?_; dsimp only)); refine box_event ?hg (N := 4) ?hd (cs := #[.int .i64 a1_0, .int .i64 a1_1]) (t := 32) ?hr ?_; (case hd => rfl); (case hg => rfl); (case hr => exact qq21); intro gb301 hg w16 hbox hb; have n0_ := Aside0.mk (bbl_ BK300.out hb); have n1_ := Aside0.mk (below_step (qq8 HB.out GE300.out) hb); have n2_ := Aside0.mk (hbox); have n3_ := Aside0.mk ((qq34 HB.out GE300.out : w.heap.size ≤ gb301)); have n4_ := Aside0.mk ((qq34 HB.out GE300.out : w.heap.size ≤ gb301)); have n5_ := Aside0.mk ((qq26 BK300.out : gb300 ≠ gb301)); have n6_ := Aside0.mk ((qq27 BK300.out : gb301 ≠ gb300)); clear BK300; clear HB; have BK300 := n0_; have HB := n1_; have BK301 := n2_; have GW301 := n3_; have GE301 := n4_; have NB300_301 := n5_; have NB301_300 := n6_; clear n0_ n1_ n2_ n3_ n4_ n5_ n6_; clear hb hbox hg) | ((with_reducible refine gate_dst (N := 5) rfl ?_); (try (refine gate_guard (by rfl) ?_; dsimp only)); refine box_event ?hg (N := 5) ?hd (cs := #[.int .i64 a2_0, .int .i64 a2_1]) (t := 32) ?hr ?_; (case hd => rfl); (case hg => rfl); (case hr => exact qq21); intro gb302 hg w17 hbox hb; have n0_ := Aside0.mk (bbl_ BK300.out hb); have n1_ := Aside0.mk (bbl_ BK301.out hb); have n2_ := Aside0.mk (below_step (qq10 HB.out GE300.out GE301.out) hb); have n3_ := Aside0.mk (hbox); have n4_ := Aside0.mk ((qq47 HB.out GE300.out GE301.out : w.heap.size ≤ gb302)); have n5_ := Aside0.mk ((qq47 HB.out GE300.out GE301.out : w.heap.size ≤ gb302)); have n6_ := Aside0.mk ((qq26 BK300.out : gb300 ≠ gb302)); have n7_ := Aside0.mk ((qq27 BK300.out : gb302 ≠ gb300)); have n8_ := Aside0.mk ((qq26 BK301.out : gb301 ≠ gb302)); have n9_ := Aside0.mk ((qq27 BK301.out : gb302 ≠ gb301)); clear BK300; clear BK301; clear HB; have BK300 := n0_; have BK301 := n1_; have HB := n2_; have BK302 := n3_; have GW302 := n4_; have GE302 := n5_; have NB300_302 := n6_; have NB302_300 := n7_; have NB301_302 := n8_; have NB302_301 := n9_; clear n0_ n1_ n2_ n3_ n4_ n5_ n6_ n7_ n8_ n9_; clear hb hbox hg))
      have n0_ := Aside0.mk (blk_drew BK300.out)
      have n1_ := Aside0.mk (blk_drew BK301.out)
      have n2_ := Aside0.mk (blk_drew BK302.out)
      have n3_ := Aside0.mk (below_drew1 HB.out)
      clear BK300
      clear BK301
      clear BK302
      clear HB
      have BK300 := n0_
      have BK301 := n1_
      have BK302 := n2_
      have HB := n3_
      clear n0_ n1_ n2_ n3_
      refine start_ (n := 8) (S := fun w' => w'.cell? ⟨gb300, 0, none⟩ = some (.int .i64 a0_0) ∧ w'.cell? ⟨gb300, 1, none⟩ = some (.int .i64 a0_1) ∧ w'.cell? ⟨gb301, 0, none⟩ = some (.int .i64 a1_0) ∧ w'.cell? ⟨gb301, 1, none⟩ = some (.int .i64 a1_1) ∧ w'.cell? ⟨gb302, 0, none⟩ = some (.int .i64 a2_0) ∧ w'.cell? ⟨gb302, 1, none⟩ = some (.int .i64 a2_1)) (ds := []) #[false, false, false, false, false, false, false, false] (by kernel_rfl) rfl rfl ⟨(blk_cell BK300.out 0).trans rfl, (blk_cell BK300.out 1).trans rfl, (blk_cell BK301.out 0).trans rfl, (blk_cell BK301.out 1).trans rfl, (blk_cell BK302.out 0).trans rfl, (blk_cell BK302.out 1).trans rfl⟩ (fun hHeld => ?_); refine with_tabW spec_l2On.tab1 spec_l2On.bits1 (fun HT_ HW_ => ?_)
      generalize w17.drew = w18 at BK300 BK301 BK302 HB hHeld ⊢
      refine take_ (i := 0) (N := some 7) (v := ?_) (a' := ?_) #[true, false, false, false, false, false, false, false] rfl rfl (take_ofW HT_.out HW_.out (by kernel_rfl)) (fun _ _ _ h => h) (Or.inl ⟨by rfl, ?_⟩) hHeld ?_ ?_
      rotate_left
      · rintro w' ⟨s0, s1, s2, s3, s4, s5⟩
        go_simp
        with_reducible rfl
      rotate_left
      · simp only [Act.put, List.setIfInBounds_toArray, List.set_cons_zero, List.set_cons_succ, i64_w, i32_w]
        rfl
      refine take_ (i := 1) (N := some 8) (v := ?_) (a' := ?_) #[true, true, false, false, false, false, false, false] rfl rfl (take_ofW HT_.out HW_.out (by kernel_rfl)) (fun _ _ _ h => h) (Or.inl ⟨by rfl, ?_⟩) hHeld ?_ ?_
      rotate_left
      · rintro w' ⟨s0, s1, s2, s3, s4, s5⟩
        go_simp
        with_reducible rfl
      rotate_left
      · simp only [Act.put, List.setIfInBounds_toArray, List.set_cons_zero, List.set_cons_succ, i64_w, i32_w]
        rfl
      refine take_ (i := 3) (N := some 10) (v := ?_) (a' := ?_) #[true, true, false, true, false, false, false, false] rfl rfl (take_ofW HT_.out HW_.out (by kernel_rfl)) (fun _ _ _ h => h) (Or.inl ⟨by rfl, ?_⟩) hHeld ?_ ?_
      rotate_left
      · rintro w' ⟨s0, s1, s2, s3, s4, s5⟩
        go_simp
        with_reducible rfl
      rotate_left
      · simp only [Act.put, List.setIfInBounds_toArray, List.set_cons_zero, List.set_cons_succ, i64_w, i32_w]
        rfl
      refine take_ (i := 4) (N := some 11) (v := ?_) (a' := ?_) #[true, true, false, true, true, false, false, false] rfl rfl (take_ofW HT_.out HW_.out (by kernel_rfl)) (fun _ _ _ h => h) (Or.inl ⟨by rfl, ?_⟩) hHeld ?_ ?_
      rotate_left
      · rintro w' ⟨s0, s1, s2, s3, s4, s5⟩
        go_simp
        with_reducible rfl
      rotate_left
      · simp only [Act.put, List.setIfInBounds_toArray, List.set_cons_zero, List.set_cons_succ, i64_w, i32_w]
        rfl
      refine one_ (i := 2) (N := some 9) #[true, true, true, true, true, false, false, false] rfl rfl (one_of HT_.out (by kernel_rfl)) (by decide) (fun K hK => ?_)
      refine goes_ Try.func77 (by kernel_rfl) rfl #[.agg #[.int .i64 a0_0, .int .i64 a0_1], .agg #[.int .i64 a1_0, .int .i64 a1_1]] (by rfl) rfl rfl qq2 ?_
      with_reducible refine (spec_l2Step.calls a0_0 a0_1 a1_0 a1_1 t303 t304 _ A4.out).mono ?_
      rintro e w19 ⟨rfl, hb⟩
      refine ⟨_, rfl, ?_⟩
      have n0_ := Aside0.mk (bbl_ BK300.out hb)
      have n1_ := Aside0.mk (bbl_ BK301.out hb)
      have n2_ := Aside0.mk (bbl_ BK302.out hb)
      have n3_ := Aside0.mk (below_step (qq7 HB.out GE300.out GE301.out GE302.out) hb)
      clear BK300
      clear BK301
      clear BK302
      clear HB
      have BK300 := n0_
      have BK301 := n1_
      have BK302 := n2_
      have HB := n3_
      clear n0_ n1_ n2_ n3_
      (try clear hb)
      (try clear hb2)
      (try clear hk)
      (try clear hi)
      refine hK.out _ _ ⟨(blk_cell BK300.out 0).trans rfl, (blk_cell BK300.out 1).trans rfl, (blk_cell BK301.out 0).trans rfl, (blk_cell BK301.out 1).trans rfl, (blk_cell BK302.out 0).trans rfl, (blk_cell BK302.out 1).trans rfl⟩ (fun hHeld => ?_)
      clear hK K
      refine norm_ (a' := ?_) ?_ ?_
      rotate_left
      · show Act.put _ (some 9) _ = _
        simp only [Act.put, List.setIfInBounds_toArray, List.set_cons_zero, List.set_cons_succ, i64_w, i32_w]
        rfl
      refine one_ (i := 5) (N := some 12) #[true, true, true, true, true, true, false, false] rfl rfl (one_of HT_.out (by kernel_rfl)) (by decide) (fun K hK => ?_)
      refine goes_ Try.func77 (by kernel_rfl) rfl #[.agg #[.int .i64 a0_0, .int .i64 a0_1], .agg #[.int .i64 a2_0, .int .i64 a2_1]] (by rfl) rfl rfl qq2 ?_
      with_reducible refine (spec_l2Step.calls a0_0 a0_1 a2_0 a2_1 t305 t306 _ A5.out).mono ?_
      rintro e w20 ⟨rfl, hb⟩
      refine ⟨_, rfl, ?_⟩
      have n0_ := Aside0.mk (bbl_ BK300.out hb)
      have n1_ := Aside0.mk (bbl_ BK301.out hb)
      have n2_ := Aside0.mk (bbl_ BK302.out hb)
      have n3_ := Aside0.mk (below_step (qq7 HB.out GE300.out GE301.out GE302.out) hb)
      clear BK300
      clear BK301
      clear BK302
      clear HB
      have BK300 := n0_
      have BK301 := n1_
      have BK302 := n2_
      have HB := n3_
      clear n0_ n1_ n2_ n3_
      (try clear hb)
      (try clear hb2)
      (try clear hk)
      (try clear hi)
      refine hK.out _ _ ⟨(blk_cell BK300.out 0).trans rfl, (blk_cell BK300.out 1).trans rfl, (blk_cell BK301.out 0).trans rfl, (blk_cell BK301.out 1).trans rfl, (blk_cell BK302.out 0).trans rfl, (blk_cell BK302.out 1).trans rfl⟩ (fun hHeld => ?_)
      clear hK K
      refine norm_ (a' := ?_) ?_ ?_
      rotate_left
      · show Act.put _ (some 12) _ = _
        simp only [Act.put, List.setIfInBounds_toArray, List.set_cons_zero, List.set_cons_succ, i64_w, i32_w]
        rfl
      refine one_ (i := 6) (N := some 13) #[true, true, true, true, true, true, true, false] rfl rfl (one_of HT_.out (by kernel_rfl)) (by decide) (fun K hK => ?_)
      refine goes_ Try.func75 (by kernel_rfl) rfl #[.agg #[.int .i64 t303, .int .i64 t304], .agg #[.int .i64 t305, .int .i64 t306]] (by rfl) rfl rfl qq2 ?_
      with_reducible refine (spec_l2Cross.calls t303 t304 t305 t306 t307 _ A6.out).mono ?_
      rintro e w21 ⟨rfl, hb⟩
      refine ⟨_, rfl, ?_⟩
      have n0_ := Aside0.mk (bbl_ BK300.out hb)
      have n1_ := Aside0.mk (bbl_ BK301.out hb)
      have n2_ := Aside0.mk (bbl_ BK302.out hb)
      have n3_ := Aside0.mk (below_step (qq7 HB.out GE300.out GE301.out GE302.out) hb)
      clear BK300
      clear BK301
      clear BK302
      clear HB
      have BK300 := n0_
      have BK301 := n1_
      have BK302 := n2_
      have HB := n3_
      clear n0_ n1_ n2_ n3_
      (try clear hb)
      (try clear hb2)
      (try clear hk)
      (try clear hi)
      refine hK.out _ _ ⟨(blk_cell BK300.out 0).trans rfl, (blk_cell BK300.out 1).trans rfl, (blk_cell BK301.out 0).trans rfl, (blk_cell BK301.out 1).trans rfl, (blk_cell BK302.out 0).trans rfl, (blk_cell BK302.out 1).trans rfl⟩ (fun hHeld => ?_)
      clear hK K
      refine norm_ (a' := ?_) ?_ ?_
      rotate_left
      · show Act.put _ (some 13) _ = _
        simp only [Act.put, List.setIfInBounds_toArray, List.set_cons_zero, List.set_cons_succ, i64_w, i32_w]
        rfl
      refine pure_ (i := 7) (N := some 14) #[true, true, true, true, true, true, true, true] rfl rfl (any_of HT_.out (by kernel_rfl)) (fun _ _ _ h => h) (Or.inl ⟨by rfl, pA_⟩) pB_ ?_
      refine done_ (done_of HT_.out (by kernel_rfl)) ?_
      have hnb22 := NB302_300.out
      have hnc22 := NB300_302.out
      have hnb23 := NB302_301.out
      have hnc23 := NB301_302.out
      have hcz24_0 : w21.cell? ⟨gb302, 0, none⟩ = some (.int .i64 a2_0) := (blk_cell BK302.out 0).trans rfl
      have hcz24_1 : w21.cell? ⟨gb302, 1, none⟩ = some (.int .i64 a2_1) := (blk_cell BK302.out 1).trans rfl
      have hfz24_0 := blk_frozen BK302.out 0
      have hfz24_1 := blk_frozen BK302.out 1
      have hnb25 := NB300_301.out
      have hnc25 := NB301_300.out
      have hcz26_0 : w21.cell? ⟨gb300, 0, none⟩ = some (.int .i64 a0_0) := (blk_cell BK300.out 0).trans rfl
      have hcz26_1 : w21.cell? ⟨gb300, 1, none⟩ = some (.int .i64 a0_1) := (blk_cell BK300.out 1).trans rfl
      have hfz26_0 := blk_frozen BK300.out 0
      have hfz26_1 := blk_frozen BK300.out 1
      have hcz27_0 : w21.cell? ⟨gb301, 0, none⟩ = some (.int .i64 a1_0) := (blk_cell BK301.out 0).trans rfl
      have hcz27_1 : w21.cell? ⟨gb301, 1, none⟩ = some (.int .i64 a1_1) := (blk_cell BK301.out 1).trans rfl
      have hfz27_0 := blk_frozen BK301.out 0
      have hfz27_1 := blk_frozen BK301.out 1
      try go_wp2_with (first | ((with_reducible refine gate_callee (f := 67) rfl ?_); refine goesL_ (some 27) rfl rfl Try.func67 (by kernel_rfl) rfl #[.int .i64 a2_0, .int .i64 ji8, .int .i64 ji9] rfl qq65 ?_; (with_reducible refine (spec_l6In.calls a2_0 ji8 ji9 true _ A10.out).mono ?_); rintro e w' ⟨rfl, ⟨nd, rfl⟩⟩; refine ⟨_, rfl, ?_⟩) | (go_at_call 67; (with_reducible refine (spec_l6In.calls a2_1 ji12 ji13 t309 _ A14.out).mono ?_); rintro e w' ⟨rfl, ⟨nd, rfl⟩⟩))
      go_ret
      exact ⟨by first | rfl | (simp [errW_none, errW_some] <;> rfl) | (simp only [← hji8, ← hji9, ← hji12, ← hji13]; first | rfl | (simp [errW_none, errW_some] <;> rfl)) | (simp [*, errW_none, errW_some] <;> rfl), qq7 HB.out GE300.out GE301.out GE302.out⟩
    · replace c11 := Bool.eq_false_iff.mpr c11
      subst c11
      have H1 : (some false) = some r := by rw [if_neg (show ¬ (false = true) by decide)] at H; exact H
      clear H
      have H := H1
      clear H1
      obtain rfl := Option.some.inj H
      go_enter Try.func50, Try.ntmps50
      try go_wp2_with (first | ((with_reducible refine gate_dst (N := 3) rfl ?_); (try (refine gate_guard (by rfl) ?_; dsimp only)); refine box_event ?hg (N := 3) ?hd (cs := #[.int .i64 a0_0, .int .i64 a0_1]) (t := 32) ?hr ?_; (case hd => rfl); (case hg => rfl); (case hr => exact qq21); intro gb300 hg w28 hbox hb; have n0_ := Aside0.mk (below_step qq1 hb); have n1_ := Aside0.mk (hbox); have n2_ := Aside0.mk ((qq31 : w.heap.size ≤ gb300)); have n3_ := Aside0.mk ((qq31 : w.heap.size ≤ gb300)); clear HB; have HB := n0_; have BK300 := n1_; have GW300 := n2_; have GE300 := n3_; clear n0_ n1_ n2_ n3_; clear hb hbox hg) | ((with_reducible refine gate_dst (N := 4) rfl ?_); (try (refine gate_guard (by rfl) ?_; dsimp only)); refine box_event ?hg (N := 4) ?hd (cs := #[.int .i64 a1_0, .int .i64 a1_1]) (t := 32) ?hr ?_; (case hd => rfl); (case hg => rfl); (case hr => exact qq21); intro gb301 hg w29 hbox hb; have n0_ := Aside0.mk (bbl_ BK300.out hb); have n1_ := Aside0.mk (below_step (qq8 HB.out GE300.out) hb); have n2_ := Aside0.mk (hbox); have n3_ := Aside0.mk ((qq34 HB.out GE300.out : w.heap.size ≤ gb301)); have n4_ := Aside0.mk ((qq34 HB.out GE300.out : w.heap.size ≤ gb301)); have n5_ := Aside0.mk ((qq26 BK300.out : gb300 ≠ gb301)); have n6_ := Aside0.mk ((qq27 BK300.out : gb301 ≠ gb300)); clear BK300; clear HB; have BK300 := n0_; have HB := n1_; have BK301 := n2_; have GW301 := n3_; have GE301 := n4_; have NB300_301 := n5_; have NB301_300 := n6_; clear n0_ n1_ n2_ n3_ n4_ n5_ n6_; clear hb hbox hg) | ((with_reducible refine gate_dst (N := 5) rfl ?_); (try (refine gate_guard (by rfl) ?_; dsimp only)); refine box_event ?hg (N := 5) ?hd (cs := #[.int .i64 a2_0, .int .i64 a2_1]) (t := 32) ?hr ?_; (case hd => rfl); (case hg => rfl); (case hr => exact qq21); intro gb302 hg w30 hbox hb; have n0_ := Aside0.mk (bbl_ BK300.out hb); have n1_ := Aside0.mk (bbl_ BK301.out hb); have n2_ := Aside0.mk (below_step (qq10 HB.out GE300.out GE301.out) hb); have n3_ := Aside0.mk (hbox); have n4_ := Aside0.mk ((qq47 HB.out GE300.out GE301.out : w.heap.size ≤ gb302)); have n5_ := Aside0.mk ((qq47 HB.out GE300.out GE301.out : w.heap.size ≤ gb302)); have n6_ := Aside0.mk ((qq26 BK300.out : gb300 ≠ gb302)); have n7_ := Aside0.mk ((qq27 BK300.out : gb302 ≠ gb300)); have n8_ := Aside0.mk ((qq26 BK301.out : gb301 ≠ gb302)); have n9_ := Aside0.mk ((qq27 BK301.out : gb302 ≠ gb301)); clear BK300; clear BK301; clear HB; have BK300 := n0_; have BK301 := n1_; have HB := n2_; have BK302 := n3_; have GW302 := n4_; have GE302 := n5_; have NB300_302 := n6_; have NB302_300 := n7_; have NB301_302 := n8_; have NB302_301 := n9_; clear n0_ n1_ n2_ n3_ n4_ n5_ n6_ n7_ n8_ n9_; clear hb hbox hg))
      have n0_ := Aside0.mk (blk_drew BK300.out)
      have n1_ := Aside0.mk (blk_drew BK301.out)
      have n2_ := Aside0.mk (blk_drew BK302.out)
      have n3_ := Aside0.mk (below_drew1 HB.out)
      clear BK300
      clear BK301
      clear BK302
      clear HB
      have BK300 := n0_
      have BK301 := n1_
      have BK302 := n2_
      have HB := n3_
      clear n0_ n1_ n2_ n3_
      refine start_ (n := 8) (S := fun w' => w'.cell? ⟨gb300, 0, none⟩ = some (.int .i64 a0_0) ∧ w'.cell? ⟨gb300, 1, none⟩ = some (.int .i64 a0_1) ∧ w'.cell? ⟨gb301, 0, none⟩ = some (.int .i64 a1_0) ∧ w'.cell? ⟨gb301, 1, none⟩ = some (.int .i64 a1_1) ∧ w'.cell? ⟨gb302, 0, none⟩ = some (.int .i64 a2_0) ∧ w'.cell? ⟨gb302, 1, none⟩ = some (.int .i64 a2_1)) (ds := []) #[false, false, false, false, false, false, false, false] (by kernel_rfl) rfl rfl ⟨(blk_cell BK300.out 0).trans rfl, (blk_cell BK300.out 1).trans rfl, (blk_cell BK301.out 0).trans rfl, (blk_cell BK301.out 1).trans rfl, (blk_cell BK302.out 0).trans rfl, (blk_cell BK302.out 1).trans rfl⟩ (fun hHeld => ?_); refine with_tabW spec_l2On.tab1 spec_l2On.bits1 (fun HT_ HW_ => ?_)
      generalize w30.drew = w31 at BK300 BK301 BK302 HB hHeld ⊢
      refine take_ (i := 0) (N := some 7) (v := ?_) (a' := ?_) #[true, false, false, false, false, false, false, false] rfl rfl (take_ofW HT_.out HW_.out (by kernel_rfl)) (fun _ _ _ h => h) (Or.inl ⟨by rfl, ?_⟩) hHeld ?_ ?_
      rotate_left
      · rintro w' ⟨s0, s1, s2, s3, s4, s5⟩
        go_simp
        with_reducible rfl
      rotate_left
      · simp only [Act.put, List.setIfInBounds_toArray, List.set_cons_zero, List.set_cons_succ, i64_w, i32_w]
        rfl
      refine take_ (i := 1) (N := some 8) (v := ?_) (a' := ?_) #[true, true, false, false, false, false, false, false] rfl rfl (take_ofW HT_.out HW_.out (by kernel_rfl)) (fun _ _ _ h => h) (Or.inl ⟨by rfl, ?_⟩) hHeld ?_ ?_
      rotate_left
      · rintro w' ⟨s0, s1, s2, s3, s4, s5⟩
        go_simp
        with_reducible rfl
      rotate_left
      · simp only [Act.put, List.setIfInBounds_toArray, List.set_cons_zero, List.set_cons_succ, i64_w, i32_w]
        rfl
      refine take_ (i := 3) (N := some 10) (v := ?_) (a' := ?_) #[true, true, false, true, false, false, false, false] rfl rfl (take_ofW HT_.out HW_.out (by kernel_rfl)) (fun _ _ _ h => h) (Or.inl ⟨by rfl, ?_⟩) hHeld ?_ ?_
      rotate_left
      · rintro w' ⟨s0, s1, s2, s3, s4, s5⟩
        go_simp
        with_reducible rfl
      rotate_left
      · simp only [Act.put, List.setIfInBounds_toArray, List.set_cons_zero, List.set_cons_succ, i64_w, i32_w]
        rfl
      refine take_ (i := 4) (N := some 11) (v := ?_) (a' := ?_) #[true, true, false, true, true, false, false, false] rfl rfl (take_ofW HT_.out HW_.out (by kernel_rfl)) (fun _ _ _ h => h) (Or.inl ⟨by rfl, ?_⟩) hHeld ?_ ?_
      rotate_left
      · rintro w' ⟨s0, s1, s2, s3, s4, s5⟩
        go_simp
        with_reducible rfl
      rotate_left
      · simp only [Act.put, List.setIfInBounds_toArray, List.set_cons_zero, List.set_cons_succ, i64_w, i32_w]
        rfl
      refine one_ (i := 2) (N := some 9) #[true, true, true, true, true, false, false, false] rfl rfl (one_of HT_.out (by kernel_rfl)) (by decide) (fun K hK => ?_)
      refine goes_ Try.func77 (by kernel_rfl) rfl #[.agg #[.int .i64 a0_0, .int .i64 a0_1], .agg #[.int .i64 a1_0, .int .i64 a1_1]] (by rfl) rfl rfl qq2 ?_
      with_reducible refine (spec_l2Step.calls a0_0 a0_1 a1_0 a1_1 t303 t304 _ A4.out).mono ?_
      rintro e w32 ⟨rfl, hb⟩
      refine ⟨_, rfl, ?_⟩
      have n0_ := Aside0.mk (bbl_ BK300.out hb)
      have n1_ := Aside0.mk (bbl_ BK301.out hb)
      have n2_ := Aside0.mk (bbl_ BK302.out hb)
      have n3_ := Aside0.mk (below_step (qq7 HB.out GE300.out GE301.out GE302.out) hb)
      clear BK300
      clear BK301
      clear BK302
      clear HB
      have BK300 := n0_
      have BK301 := n1_
      have BK302 := n2_
      have HB := n3_
      clear n0_ n1_ n2_ n3_
      (try clear hb)
      (try clear hb2)
      (try clear hk)
      (try clear hi)
      refine hK.out _ _ ⟨(blk_cell BK300.out 0).trans rfl, (blk_cell BK300.out 1).trans rfl, (blk_cell BK301.out 0).trans rfl, (blk_cell BK301.out 1).trans rfl, (blk_cell BK302.out 0).trans rfl, (blk_cell BK302.out 1).trans rfl⟩ (fun hHeld => ?_)
      clear hK K
      refine norm_ (a' := ?_) ?_ ?_
      rotate_left
      · show Act.put _ (some 9) _ = _
        simp only [Act.put, List.setIfInBounds_toArray, List.set_cons_zero, List.set_cons_succ, i64_w, i32_w]
        rfl
      refine one_ (i := 5) (N := some 12) #[true, true, true, true, true, true, false, false] rfl rfl (one_of HT_.out (by kernel_rfl)) (by decide) (fun K hK => ?_)
      refine goes_ Try.func77 (by kernel_rfl) rfl #[.agg #[.int .i64 a0_0, .int .i64 a0_1], .agg #[.int .i64 a2_0, .int .i64 a2_1]] (by rfl) rfl rfl qq2 ?_
      with_reducible refine (spec_l2Step.calls a0_0 a0_1 a2_0 a2_1 t305 t306 _ A5.out).mono ?_
      rintro e w33 ⟨rfl, hb⟩
      refine ⟨_, rfl, ?_⟩
      have n0_ := Aside0.mk (bbl_ BK300.out hb)
      have n1_ := Aside0.mk (bbl_ BK301.out hb)
      have n2_ := Aside0.mk (bbl_ BK302.out hb)
      have n3_ := Aside0.mk (below_step (qq7 HB.out GE300.out GE301.out GE302.out) hb)
      clear BK300
      clear BK301
      clear BK302
      clear HB
      have BK300 := n0_
      have BK301 := n1_
      have BK302 := n2_
      have HB := n3_
      clear n0_ n1_ n2_ n3_
      (try clear hb)
      (try clear hb2)
      (try clear hk)
      (try clear hi)
      refine hK.out _ _ ⟨(blk_cell BK300.out 0).trans rfl, (blk_cell BK300.out 1).trans rfl, (blk_cell BK301.out 0).trans rfl, (blk_cell BK301.out 1).trans rfl, (blk_cell BK302.out 0).trans rfl, (blk_cell BK302.out 1).trans rfl⟩ (fun hHeld => ?_)
      clear hK K
      refine norm_ (a' := ?_) ?_ ?_
      rotate_left
      · show Act.put _ (some 12) _ = _
        simp only [Act.put, List.setIfInBounds_toArray, List.set_cons_zero, List.set_cons_succ, i64_w, i32_w]
        rfl
      refine one_ (i := 6) (N := some 13) #[true, true, true, true, true, true, true, false] rfl rfl (one_of HT_.out (by kernel_rfl)) (by decide) (fun K hK => ?_)
      refine goes_ Try.func75 (by kernel_rfl) rfl #[.agg #[.int .i64 t303, .int .i64 t304], .agg #[.int .i64 t305, .int .i64 t306]] (by rfl) rfl rfl qq2 ?_
      with_reducible refine (spec_l2Cross.calls t303 t304 t305 t306 t307 _ A6.out).mono ?_
      rintro e w34 ⟨rfl, hb⟩
      refine ⟨_, rfl, ?_⟩
      have n0_ := Aside0.mk (bbl_ BK300.out hb)
      have n1_ := Aside0.mk (bbl_ BK301.out hb)
      have n2_ := Aside0.mk (bbl_ BK302.out hb)
      have n3_ := Aside0.mk (below_step (qq7 HB.out GE300.out GE301.out GE302.out) hb)
      clear BK300
      clear BK301
      clear BK302
      clear HB
      have BK300 := n0_
      have BK301 := n1_
      have BK302 := n2_
      have HB := n3_
      clear n0_ n1_ n2_ n3_
      (try clear hb)
      (try clear hb2)
      (try clear hk)
      (try clear hi)
      refine hK.out _ _ ⟨(blk_cell BK300.out 0).trans rfl, (blk_cell BK300.out 1).trans rfl, (blk_cell BK301.out 0).trans rfl, (blk_cell BK301.out 1).trans rfl, (blk_cell BK302.out 0).trans rfl, (blk_cell BK302.out 1).trans rfl⟩ (fun hHeld => ?_)
      clear hK K
      refine norm_ (a' := ?_) ?_ ?_
      rotate_left
      · show Act.put _ (some 13) _ = _
        simp only [Act.put, List.setIfInBounds_toArray, List.set_cons_zero, List.set_cons_succ, i64_w, i32_w]
        rfl
      refine pure_ (i := 7) (N := some 14) #[true, true, true, true, true, true, true, true] rfl rfl (any_of HT_.out (by kernel_rfl)) (fun _ _ _ h => h) (Or.inl ⟨by rfl, pA_⟩) pB_ ?_
      refine done_ (done_of HT_.out (by kernel_rfl)) ?_
      have hnb35 := NB302_300.out
      have hnc35 := NB300_302.out
      have hnb36 := NB302_301.out
      have hnc36 := NB301_302.out
      have hcz37_0 : w34.cell? ⟨gb302, 0, none⟩ = some (.int .i64 a2_0) := (blk_cell BK302.out 0).trans rfl
      have hcz37_1 : w34.cell? ⟨gb302, 1, none⟩ = some (.int .i64 a2_1) := (blk_cell BK302.out 1).trans rfl
      have hfz37_0 := blk_frozen BK302.out 0
      have hfz37_1 := blk_frozen BK302.out 1
      have hnb38 := NB300_301.out
      have hnc38 := NB301_300.out
      have hcz39_0 : w34.cell? ⟨gb300, 0, none⟩ = some (.int .i64 a0_0) := (blk_cell BK300.out 0).trans rfl
      have hcz39_1 : w34.cell? ⟨gb300, 1, none⟩ = some (.int .i64 a0_1) := (blk_cell BK300.out 1).trans rfl
      have hfz39_0 := blk_frozen BK300.out 0
      have hfz39_1 := blk_frozen BK300.out 1
      have hcz40_0 : w34.cell? ⟨gb301, 0, none⟩ = some (.int .i64 a1_0) := (blk_cell BK301.out 0).trans rfl
      have hcz40_1 : w34.cell? ⟨gb301, 1, none⟩ = some (.int .i64 a1_1) := (blk_cell BK301.out 1).trans rfl
      have hfz40_0 := blk_frozen BK301.out 0
      have hfz40_1 := blk_frozen BK301.out 1
      try go_wp2_with (first | ((with_reducible refine gate_callee (f := 67) rfl ?_); refine goesL_ (some 27) rfl rfl Try.func67 (by kernel_rfl) rfl #[.int .i64 a2_0, .int .i64 ji8, .int .i64 ji9] rfl qq65 ?_; (with_reducible refine (spec_l6In.calls a2_0 ji8 ji9 false _ A10.out).mono ?_); rintro e w' ⟨rfl, ⟨nd, rfl⟩⟩; refine ⟨_, rfl, ?_⟩))
      go_ret
      exact ⟨by first | rfl | (simp [errW_none, errW_some] <;> rfl) | (simp only [← hji8, ← hji9]; first | rfl | (simp [errW_none, errW_some] <;> rfl)) | (simp [*, errW_none, errW_some] <;> rfl), qq7 HB.out GE300.out GE301.out GE302.out⟩
  · rw [if_neg c7] at H
    have c7b0 : (t307 == 0) = false := beq_eq_false_iff_ne.mpr c7
    have c7b1 : (t307 != 0) = true := bne_iff_ne.mpr c7
    obtain rfl := Option.some.inj H
    go_enter Try.func50, Try.ntmps50
    try go_wp2_with (first | ((with_reducible refine gate_dst (N := 3) rfl ?_); (try (refine gate_guard (by rfl) ?_; dsimp only)); refine box_event ?hg (N := 3) ?hd (cs := #[.int .i64 a0_0, .int .i64 a0_1]) (t := 32) ?hr ?_; (case hd => rfl); (case hg => rfl); (case hr => exact qq21); intro gb300 hg w41 hbox hb; have n0_ := Aside0.mk (below_step qq1 hb); have n1_ := Aside0.mk (hbox); have n2_ := Aside0.mk ((qq31 : w.heap.size ≤ gb300)); have n3_ := Aside0.mk ((qq31 : w.heap.size ≤ gb300)); clear HB; have HB := n0_; have BK300 := n1_; have GW300 := n2_; have GE300 := n3_; clear n0_ n1_ n2_ n3_; clear hb hbox hg) | ((with_reducible refine gate_dst (N := 4) rfl ?_); (try (refine gate_guard (by rfl) ?_; dsimp only)); refine box_event ?hg (N := 4) ?hd (cs := #[.int .i64 a1_0, .int .i64 a1_1]) (t := 32) ?hr ?_; (case hd => rfl); (case hg => rfl); (case hr => exact qq21); intro gb301 hg w42 hbox hb; have n0_ := Aside0.mk (bbl_ BK300.out hb); have n1_ := Aside0.mk (below_step (qq8 HB.out GE300.out) hb); have n2_ := Aside0.mk (hbox); have n3_ := Aside0.mk ((qq34 HB.out GE300.out : w.heap.size ≤ gb301)); have n4_ := Aside0.mk ((qq34 HB.out GE300.out : w.heap.size ≤ gb301)); have n5_ := Aside0.mk ((qq26 BK300.out : gb300 ≠ gb301)); have n6_ := Aside0.mk ((qq27 BK300.out : gb301 ≠ gb300)); clear BK300; clear HB; have BK300 := n0_; have HB := n1_; have BK301 := n2_; have GW301 := n3_; have GE301 := n4_; have NB300_301 := n5_; have NB301_300 := n6_; clear n0_ n1_ n2_ n3_ n4_ n5_ n6_; clear hb hbox hg) | ((with_reducible refine gate_dst (N := 5) rfl ?_); (try (refine gate_guard (by rfl) ?_; dsimp only)); refine box_event ?hg (N := 5) ?hd (cs := #[.int .i64 a2_0, .int .i64 a2_1]) (t := 32) ?hr ?_; (case hd => rfl); (case hg => rfl); (case hr => exact qq21); intro gb302 hg w43 hbox hb; have n0_ := Aside0.mk (bbl_ BK300.out hb); have n1_ := Aside0.mk (bbl_ BK301.out hb); have n2_ := Aside0.mk (below_step (qq10 HB.out GE300.out GE301.out) hb); have n3_ := Aside0.mk (hbox); have n4_ := Aside0.mk ((qq47 HB.out GE300.out GE301.out : w.heap.size ≤ gb302)); have n5_ := Aside0.mk ((qq47 HB.out GE300.out GE301.out : w.heap.size ≤ gb302)); have n6_ := Aside0.mk ((qq26 BK300.out : gb300 ≠ gb302)); have n7_ := Aside0.mk ((qq27 BK300.out : gb302 ≠ gb300)); have n8_ := Aside0.mk ((qq26 BK301.out : gb301 ≠ gb302)); have n9_ := Aside0.mk ((qq27 BK301.out : gb302 ≠ gb301)); clear BK300; clear BK301; clear HB; have BK300 := n0_; have BK301 := n1_; have HB := n2_; have BK302 := n3_; have GW302 := n4_; have GE302 := n5_; have NB300_302 := n6_; have NB302_300 := n7_; have NB301_302 := n8_; have NB302_301 := n9_; clear n0_ n1_ n2_ n3_ n4_ n5_ n6_ n7_ n8_ n9_; clear hb hbox hg))
    have n0_ := Aside0.mk (blk_drew BK300.out)
    have n1_ := Aside0.mk (blk_drew BK301.out)
    have n2_ := Aside0.mk (blk_drew BK302.out)
    have n3_ := Aside0.mk (below_drew1 HB.out)
    clear BK300
    clear BK301
    clear BK302
    clear HB
    have BK300 := n0_
    have BK301 := n1_
    have BK302 := n2_
    have HB := n3_
    clear n0_ n1_ n2_ n3_
    refine start_ (n := 8) (S := fun w' => w'.cell? ⟨gb300, 0, none⟩ = some (.int .i64 a0_0) ∧ w'.cell? ⟨gb300, 1, none⟩ = some (.int .i64 a0_1) ∧ w'.cell? ⟨gb301, 0, none⟩ = some (.int .i64 a1_0) ∧ w'.cell? ⟨gb301, 1, none⟩ = some (.int .i64 a1_1) ∧ w'.cell? ⟨gb302, 0, none⟩ = some (.int .i64 a2_0) ∧ w'.cell? ⟨gb302, 1, none⟩ = some (.int .i64 a2_1)) (ds := []) #[false, false, false, false, false, false, false, false] (by kernel_rfl) rfl rfl ⟨(blk_cell BK300.out 0).trans rfl, (blk_cell BK300.out 1).trans rfl, (blk_cell BK301.out 0).trans rfl, (blk_cell BK301.out 1).trans rfl, (blk_cell BK302.out 0).trans rfl, (blk_cell BK302.out 1).trans rfl⟩ (fun hHeld => ?_); refine with_tabW spec_l2On.tab1 spec_l2On.bits1 (fun HT_ HW_ => ?_)
    generalize w43.drew = w44 at BK300 BK301 BK302 HB hHeld ⊢
    refine take_ (i := 0) (N := some 7) (v := ?_) (a' := ?_) #[true, false, false, false, false, false, false, false] rfl rfl (take_ofW HT_.out HW_.out (by kernel_rfl)) (fun _ _ _ h => h) (Or.inl ⟨by rfl, ?_⟩) hHeld ?_ ?_
    rotate_left
    · rintro w' ⟨s0, s1, s2, s3, s4, s5⟩
      go_simp
      with_reducible rfl
    rotate_left
    · simp only [Act.put, List.setIfInBounds_toArray, List.set_cons_zero, List.set_cons_succ, i64_w, i32_w]
      rfl
    refine take_ (i := 1) (N := some 8) (v := ?_) (a' := ?_) #[true, true, false, false, false, false, false, false] rfl rfl (take_ofW HT_.out HW_.out (by kernel_rfl)) (fun _ _ _ h => h) (Or.inl ⟨by rfl, ?_⟩) hHeld ?_ ?_
    rotate_left
    · rintro w' ⟨s0, s1, s2, s3, s4, s5⟩
      go_simp
      with_reducible rfl
    rotate_left
    · simp only [Act.put, List.setIfInBounds_toArray, List.set_cons_zero, List.set_cons_succ, i64_w, i32_w]
      rfl
    refine take_ (i := 3) (N := some 10) (v := ?_) (a' := ?_) #[true, true, false, true, false, false, false, false] rfl rfl (take_ofW HT_.out HW_.out (by kernel_rfl)) (fun _ _ _ h => h) (Or.inl ⟨by rfl, ?_⟩) hHeld ?_ ?_
    rotate_left
    · rintro w' ⟨s0, s1, s2, s3, s4, s5⟩
      go_simp
      with_reducible rfl
    rotate_left
    · simp only [Act.put, List.setIfInBounds_toArray, List.set_cons_zero, List.set_cons_succ, i64_w, i32_w]
      rfl
    refine take_ (i := 4) (N := some 11) (v := ?_) (a' := ?_) #[true, true, false, true, true, false, false, false] rfl rfl (take_ofW HT_.out HW_.out (by kernel_rfl)) (fun _ _ _ h => h) (Or.inl ⟨by rfl, ?_⟩) hHeld ?_ ?_
    rotate_left
    · rintro w' ⟨s0, s1, s2, s3, s4, s5⟩
      go_simp
      with_reducible rfl
    rotate_left
    · simp only [Act.put, List.setIfInBounds_toArray, List.set_cons_zero, List.set_cons_succ, i64_w, i32_w]
      rfl
    refine one_ (i := 2) (N := some 9) #[true, true, true, true, true, false, false, false] rfl rfl (one_of HT_.out (by kernel_rfl)) (by decide) (fun K hK => ?_)
    refine goes_ Try.func77 (by kernel_rfl) rfl #[.agg #[.int .i64 a0_0, .int .i64 a0_1], .agg #[.int .i64 a1_0, .int .i64 a1_1]] (by rfl) rfl rfl qq2 ?_
    with_reducible refine (spec_l2Step.calls a0_0 a0_1 a1_0 a1_1 t303 t304 _ A4.out).mono ?_
    rintro e w45 ⟨rfl, hb⟩
    refine ⟨_, rfl, ?_⟩
    have n0_ := Aside0.mk (bbl_ BK300.out hb)
    have n1_ := Aside0.mk (bbl_ BK301.out hb)
    have n2_ := Aside0.mk (bbl_ BK302.out hb)
    have n3_ := Aside0.mk (below_step (qq7 HB.out GE300.out GE301.out GE302.out) hb)
    clear BK300
    clear BK301
    clear BK302
    clear HB
    have BK300 := n0_
    have BK301 := n1_
    have BK302 := n2_
    have HB := n3_
    clear n0_ n1_ n2_ n3_
    (try clear hb)
    (try clear hb2)
    (try clear hk)
    (try clear hi)
    refine hK.out _ _ ⟨(blk_cell BK300.out 0).trans rfl, (blk_cell BK300.out 1).trans rfl, (blk_cell BK301.out 0).trans rfl, (blk_cell BK301.out 1).trans rfl, (blk_cell BK302.out 0).trans rfl, (blk_cell BK302.out 1).trans rfl⟩ (fun hHeld => ?_)
    clear hK K
    refine norm_ (a' := ?_) ?_ ?_
    rotate_left
    · show Act.put _ (some 9) _ = _
      simp only [Act.put, List.setIfInBounds_toArray, List.set_cons_zero, List.set_cons_succ, i64_w, i32_w]
      rfl
    refine one_ (i := 5) (N := some 12) #[true, true, true, true, true, true, false, false] rfl rfl (one_of HT_.out (by kernel_rfl)) (by decide) (fun K hK => ?_)
    refine goes_ Try.func77 (by kernel_rfl) rfl #[.agg #[.int .i64 a0_0, .int .i64 a0_1], .agg #[.int .i64 a2_0, .int .i64 a2_1]] (by rfl) rfl rfl qq2 ?_
    with_reducible refine (spec_l2Step.calls a0_0 a0_1 a2_0 a2_1 t305 t306 _ A5.out).mono ?_
    rintro e w46 ⟨rfl, hb⟩
    refine ⟨_, rfl, ?_⟩
    have n0_ := Aside0.mk (bbl_ BK300.out hb)
    have n1_ := Aside0.mk (bbl_ BK301.out hb)
    have n2_ := Aside0.mk (bbl_ BK302.out hb)
    have n3_ := Aside0.mk (below_step (qq7 HB.out GE300.out GE301.out GE302.out) hb)
    clear BK300
    clear BK301
    clear BK302
    clear HB
    have BK300 := n0_
    have BK301 := n1_
    have BK302 := n2_
    have HB := n3_
    clear n0_ n1_ n2_ n3_
    (try clear hb)
    (try clear hb2)
    (try clear hk)
    (try clear hi)
    refine hK.out _ _ ⟨(blk_cell BK300.out 0).trans rfl, (blk_cell BK300.out 1).trans rfl, (blk_cell BK301.out 0).trans rfl, (blk_cell BK301.out 1).trans rfl, (blk_cell BK302.out 0).trans rfl, (blk_cell BK302.out 1).trans rfl⟩ (fun hHeld => ?_)
    clear hK K
    refine norm_ (a' := ?_) ?_ ?_
    rotate_left
    · show Act.put _ (some 12) _ = _
      simp only [Act.put, List.setIfInBounds_toArray, List.set_cons_zero, List.set_cons_succ, i64_w, i32_w]
      rfl
    refine one_ (i := 6) (N := some 13) #[true, true, true, true, true, true, true, false] rfl rfl (one_of HT_.out (by kernel_rfl)) (by decide) (fun K hK => ?_)
    refine goes_ Try.func75 (by kernel_rfl) rfl #[.agg #[.int .i64 t303, .int .i64 t304], .agg #[.int .i64 t305, .int .i64 t306]] (by rfl) rfl rfl qq2 ?_
    with_reducible refine (spec_l2Cross.calls t303 t304 t305 t306 t307 _ A6.out).mono ?_
    rintro e w47 ⟨rfl, hb⟩
    refine ⟨_, rfl, ?_⟩
    have n0_ := Aside0.mk (bbl_ BK300.out hb)
    have n1_ := Aside0.mk (bbl_ BK301.out hb)
    have n2_ := Aside0.mk (bbl_ BK302.out hb)
    have n3_ := Aside0.mk (below_step (qq7 HB.out GE300.out GE301.out GE302.out) hb)
    clear BK300
    clear BK301
    clear BK302
    clear HB
    have BK300 := n0_
    have BK301 := n1_
    have BK302 := n2_
    have HB := n3_
    clear n0_ n1_ n2_ n3_
    (try clear hb)
    (try clear hb2)
    (try clear hk)
    (try clear hi)
    refine hK.out _ _ ⟨(blk_cell BK300.out 0).trans rfl, (blk_cell BK300.out 1).trans rfl, (blk_cell BK301.out 0).trans rfl, (blk_cell BK301.out 1).trans rfl, (blk_cell BK302.out 0).trans rfl, (blk_cell BK302.out 1).trans rfl⟩ (fun hHeld => ?_)
    clear hK K
    refine norm_ (a' := ?_) ?_ ?_
    rotate_left
    · show Act.put _ (some 13) _ = _
      simp only [Act.put, List.setIfInBounds_toArray, List.set_cons_zero, List.set_cons_succ, i64_w, i32_w]
      rfl
    refine pure_ (i := 7) (N := some 14) #[true, true, true, true, true, true, true, true] rfl rfl (any_of HT_.out (by kernel_rfl)) (fun _ _ _ h => h) (Or.inl ⟨by rfl, pA_⟩) pB_ ?_
    refine done_ (done_of HT_.out (by kernel_rfl)) ?_
    try go_wp2
    go_ret
    exact ⟨qq11, qq7 HB.out GE300.out GE301.out GE302.out⟩

end Go.Proofs.Ytgdhgncdpmalcaa.Q
namespace Go.Proofs.Ytgdhgncdpmalcaa.Pure
open Go.RowKit Go.Proofs.Ytgdhgncdpmalcaa.Q Go.Proofs.YtgdhgncdpmalcaaW.PrintWords Go.Proofs.YtgdhgncdpmalcaaW.PrintLast Go.Proofs.YtgdhgncdpmalcaaW.PrintMore

/-- What PointOn answers. -/
def onP (a b c d e f : Int) : Prop := crs a b c d e f = 0 ∧ min a c ≤ e ∧ e ≤ max a c ∧ min b d ≤ f ∧ f ≤ max b d
instance (a b c d e f : Int) : Decidable (onP a b c d e f) := by unfold onP; infer_instance
def onR (a b c d e f : Int) : Bool := decide (PV a b = true ∧ PV c d = true ∧ PV e f = true ∧ onP a b c d e f)

theorem spec_l2On_eq {a b c d e f : Int} (h : PV a b = true) (h' : PV c d = true) (h'' : PV e f = true) : spec_l2On.f a b c d e f = some (decide (onP a b c d e f)) := by
  unfold spec_l2On.f
  rw [spec_l2Step_eq h h', spec_l2Step_eq h h'']
  simp only [Option.bind_some, spec_cross_eq h h' h'', spec_l6In_eq, mx_eq, mn_eq]
  by_cases h0 : crs a b c d e f = 0
  · rw [if_pos h0]
    by_cases h1 : min a c ≤ e ∧ e ≤ max a c
    · rw [if_pos (by simpa using h1)]; congr 1; rw [decide_eq_decide]; unfold onP; omega
    · rw [if_neg (by simpa using h1)]; congr 1; symm; rw [decide_eq_false_iff_not]; unfold onP; omega
  · rw [if_neg h0]; congr 1; symm; rw [decide_eq_false_iff_not]; unfold onP; omega

theorem impl_between_eq (a b c : Int) : impl_between.f a b c = some (decide (min a b ≤ c ∧ c ≤ max a b)) := by
  unfold impl_between.f
  rw [mx_eq, mn_eq]
  by_cases h : min a b ≤ c
  · rw [if_pos h]; congr 1; rw [decide_eq_decide]; omega
  · rw [if_neg h]; congr 1; symm; rw [decide_eq_false_iff_not]; omega

theorem impl_PointOn_eq (k : Nat) (a b c d e f : Int) : impl_PointOn.f (k + 1) a b c d e f = some (onR a b c d e f) := by
  simp only [impl_PointOn.f, impl_PointSide_eq, Option.bind_some, impl_PointOn.j0, impl_between_eq, onR]
  by_cases h : PV a b = true ∧ PV c d = true ∧ PV e f = true
  · rw [sideR_yes h.1 h.2.1 h.2.2, if_pos rfl]
    by_cases h0 : crs a b c d e f = 0
    · rw [if_neg (by simp [sgn_zero.2 h0])]
      by_cases h1 : min a c ≤ e ∧ e ≤ max a c
      · rw [if_pos (by simpa using h1)]; congr 1; rw [decide_eq_decide]
        constructor
        · intro hh; exact ⟨h.1, h.2.1, h.2.2, h0, by omega, by omega, by omega, by omega⟩
        · rintro ⟨_, _, _, _, _, _, h5, h6⟩; exact ⟨h5, h6⟩
      · rw [if_neg (by simpa using h1)]; congr 1; symm; rw [decide_eq_false_iff_not]; unfold onP; omega
    · rw [if_pos (by simpa [sgn_zero] using h0)]; congr 1; symm; rw [decide_eq_false_iff_not]; unfold onP; omega
  · rw [sideR_no h, if_neg (by simp), if_pos trivial]; congr 1; symm; rw [decide_eq_false_iff_not]
    rintro ⟨h1, h2, h3, _⟩; exact h ⟨h1, h2, h3⟩

end Go.Proofs.Ytgdhgncdpmalcaa.Pure
namespace Go.Proofs.Ytgdhgncdpmalcaa.Ring
open Go.RowKit Go.Shelf Go.Proofs.Ytgdhgncdpmalcaa.Q Go.Proofs.Ytgdhgncdpmalcaa.Drawn Go.Proofs.YtgdhgncdpmalcaaW.PrintWords Go.Proofs.YtgdhgncdpmalcaaW.PrintLast Go.Proofs.YtgdhgncdpmalcaaW.PrintMore
set_option linter.unusedVariables false
set_option linter.unusedSimpArgs false
attribute [local go_sem] Oper.semAt_some

def onPt (p q r : Pt) : Bool := Pure.onR p.f0 p.f1 q.f0 q.f1 r.f0 r.f1
theorem onPt_f (p q r : Pt) : impl_PointOn.f 1 p.f0 p.f1 q.f0 q.f1 r.f0 r.f1 = some (onPt p q r) := Pure.impl_PointOn_eq 0 _ _ _ _ _ _
set_option maxRecDepth 100000 in
set_option maxHeartbeats 4000000 in
theorem folds_at (b1 b2 b3 : Nat) (p1 p2 p3 : Pt) (w : World) (x1 : w.cell? ⟨b1, 0, none⟩ = some (.int .i64 p1.f0)) (y1 : w.cell? ⟨b1, 1, none⟩ = some (.int .i64 p1.f1)) (n1 : w.cell? ⟨b1, 2, none⟩ = some (.pointer (some ⟨b2, 0, none⟩)))
    (x2 : w.cell? ⟨b2, 0, none⟩ = some (.int .i64 p2.f0)) (y2 : w.cell? ⟨b2, 1, none⟩ = some (.int .i64 p2.f1)) (n2 : w.cell? ⟨b2, 2, none⟩ = some (.pointer (some ⟨b3, 0, none⟩)))
    (x3 : w.cell? ⟨b3, 0, none⟩ = some (.int .i64 p3.f0)) (y3 : w.cell? ⟨b3, 1, none⟩ = some (.int .i64 p3.f1)) (s1 : b1 < w.heap.size) (s2 : b2 < w.heap.size) (s3 : b3 < w.heap.size) :
    Calls Try.prog 83 #[.pointer (some ⟨b1, 0, none⟩)] w fun e w' => e = .returned (.bool (onPt p1 p2 p3 || onPt p2 p3 p1)) ∧ Below w.heap.size w w' := by
  refine (callsIn_wide (n := 0)).1 (callsIn_of_wp Try.func83 rfl trivial ?_ rfl)
  simp only [Try.ntmps83, List.size_toArray, List.length_cons, List.length_nil, Nat.reduceAdd, Nat.reduceSub, Array.replicate_succ, Array.replicate_zero, List.push_toArray, List.append_toArray, List.nil_append, List.cons_append]
  have HF := wide_plain Try.prog
  gi_wp2
  obtain ⟨VS, hVS⟩ : ∃ VS : (Nat → Nat) → List (Option Tmp × Value), (fun B => [(some 6, .pointer (some ⟨b1, 0, none⟩)), (some 7, .pointer (some ⟨b1, 0, none⟩)), (some 8, .pointer (some ⟨b1, 0, none⟩)), (some 9, .agg #[.int .i64 p1.f0, .int .i64 p1.f1]), (some 10, .pointer (some ⟨b1, 0, none⟩)), (some 11, .pointer (some ⟨b1, 0, none⟩)), (some 12, .pointer (some ⟨b1, 2, none⟩)), (some 13, .pointer (some ⟨b2, 0, none⟩)), (some 14, .pointer (some ⟨b2, 0, none⟩)), (some 15, .pointer (some ⟨b2, 0, none⟩)), (some 16, .agg #[.int .i64 p2.f0, .int .i64 p2.f1]), (some 17, .pointer (some ⟨b1, 0, none⟩)), (some 18, .pointer (some ⟨b1, 0, none⟩)), (some 19, .pointer (some ⟨b1, 2, none⟩)), (some 20, .pointer (some ⟨b2, 0, none⟩)), (some 21, .pointer (some ⟨b2, 0, none⟩)), (some 22, .pointer (some ⟨b2, 2, none⟩)), (some 23, .pointer (some ⟨b3, 0, none⟩)), (some 24, .pointer (some ⟨b3, 0, none⟩)), (some 25, .pointer (some ⟨b3, 0, none⟩)), (some 26, .agg #[.int .i64 p3.f0, .int .i64 p3.f1]), (some 3, .pointer (some ⟨B 0, 0, none⟩)), (some 4, .pointer (some ⟨B 1, 0, none⟩)), (some 5, .pointer (some ⟨B 2, 0, none⟩)), (none, undef), (none, undef), (none, undef)]) = VS := ⟨_, rfl⟩
  have HN : ∀ B, ((VS B).filterMap (·.1)).Nodup := fun B => by rw [← hVS]; exact (show List.Nodup [(6 : Tmp), (7 : Tmp), (8 : Tmp), (9 : Tmp), (10 : Tmp), (11 : Tmp), (12 : Tmp), (13 : Tmp), (14 : Tmp), (15 : Tmp), (16 : Tmp), (17 : Tmp), (18 : Tmp), (19 : Tmp), (20 : Tmp), (21 : Tmp), (22 : Tmp), (23 : Tmp), (24 : Tmp), (25 : Tmp), (26 : Tmp), (3 : Tmp), (4 : Tmp), (5 : Tmp)] by decide)
  refine act_name fun A0 hA0 => ?_
  have E0 : ∀ (B : Nat → Nat) (L : List Bool), (fill (VS B) L A0).tmps[0]?.getD undef = .pointer (some ⟨b1, 0, none⟩) := fun B L => fill_old _ _ _ (by rw [← hVS]; exact (show (0 : Tmp) ∉ [(6 : Tmp), (7 : Tmp), (8 : Tmp), (9 : Tmp), (10 : Tmp), (11 : Tmp), (12 : Tmp), (13 : Tmp), (14 : Tmp), (15 : Tmp), (16 : Tmp), (17 : Tmp), (18 : Tmp), (19 : Tmp), (20 : Tmp), (21 : Tmp), (22 : Tmp), (23 : Tmp), (24 : Tmp), (25 : Tmp), (26 : Tmp), (3 : Tmp), (4 : Tmp), (5 : Tmp)] by decide)) (by rw [← hA0]; rfl)
  have hT_ : 26 < A0.tmps.size := by rw [← hA0]; simp
  have hSa : ∀ w' : World, w.heap.size ≤ w'.heap.size → (fun w' => Below w.heap.size w w') w' → ∀ o, (fun w' => Below w.heap.size w w') (w'.alloc o) := fun w' hz h o => h.alloc hz o
  have hSs : ∀ (w' : World) (p : Addr) (v : Value), w.heap.size ≤ p.block → (fun w' => Below w.heap.size w w') w' → (fun w' => Below w.heap.size w w') (w'.setCell p v) := fun w' p v hp h => h.setCell hp v
  refine drawn_any (by kernel_rfl) (early_spec (by kernel_rfl)) (show List.Nodup [(6 : Tmp), (7 : Tmp), (8 : Tmp), (9 : Tmp), (10 : Tmp), (11 : Tmp), (12 : Tmp), (13 : Tmp), (14 : Tmp), (15 : Tmp), (16 : Tmp), (17 : Tmp), (18 : Tmp), (19 : Tmp), (20 : Tmp), (21 : Tmp), (22 : Tmp), (23 : Tmp), (24 : Tmp), (25 : Tmp), (26 : Tmp), (3 : Tmp), (4 : Tmp), (5 : Tmp)] by decide) (fun L vs w' => ∃ B : Nat → Nat, vs = VS B ∧ Boxes (w.heap.size) (fun w' => Below w.heap.size w w') 3 (fun t => 21 + t) (fun t => 24 + t) (fun t => match t with | 0 => (p1.f0, p1.f1) | 1 => (p2.f0, p2.f1) | _ => (p3.f0, p3.f1)) L B w') (fun L vs w' h => by obtain ⟨B, rfl, _⟩ := h; rw [← hVS]; rfl) (VS (fun _ => 0)) ⟨fun _ => 0, rfl, Boxes.start ((Below.refl _ _).drew) (by simp) _⟩ ?_ ?_
  · intro i o vs L w' ho hl hli hpre hcl hV K hK
    obtain ⟨B, rfl, hT⟩ := hV
    have hS := hT.s
    have hii : i = 0 ∨ i = 1 ∨ i = 2 ∨ i = 3 ∨ i = 4 ∨ i = 5 ∨ i = 6 ∨ i = 7 ∨ i = 8 ∨ i = 9 ∨ i = 10 ∨ i = 11 ∨ i = 12 ∨ i = 13 ∨ i = 14 ∨ i = 15 ∨ i = 16 ∨ i = 17 ∨ i = 18 ∨ i = 19 ∨ i = 20 ∨ i = 21 ∨ i = 22 ∨ i = 23 ∨ i = 24 ∨ i = 25 ∨ i = 26 := by have hq := (Array.getElem?_eq_some_iff.1 ho).1; simp at hq; omega
    rcases hii with rfl | rfl | rfl | rfl | rfl | rfl | rfl | rfl | rfl | rfl | rfl | rfl | rfl | rfl | rfl | rfl | rfl | rfl | rfl | rfl | rfl | rfl | rfl | rfl | rfl | rfl | rfl
    · obtain rfl := Option.some.inj ho
      have e0 := E0 B L
      refine st_val HF rfl (by simp) rfl (v := .pointer (some ⟨b1, 0, none⟩)) (w' := w') ?_ (hK _ w' ⟨B, by rw [← hVS]; rfl, hT.keep (fun t ht => by omega) (fun t ht => by omega)⟩)
      generalize fill (VS B) L A0 = A at e0 ⊢
      simp [execOp, go_sem, i64_w, e0]
    · obtain rfl := Option.some.inj ho
      have e6 := fill_getB (B := B) HN hVS hT_ (t := 6) (j := 0) rfl rfl (hpre ⟨0, .data⟩ (by simp) rfl)
      refine st_val HF rfl (by simp) rfl (v := .pointer (some ⟨b1, 0, none⟩)) (w' := w') ?_ (hK _ w' ⟨B, by rw [← hVS]; rfl, hT.keep (fun t ht => by omega) (fun t ht => by omega)⟩)
      generalize fill (VS B) L A0 = A at e6 ⊢
      simp [execOp, go_sem, i64_w, e6]
    · obtain rfl := Option.some.inj ho
      have e7 := fill_getB (B := B) HN hVS hT_ (t := 7) (j := 1) rfl rfl (hpre ⟨1, .data⟩ (by simp) rfl)
      refine st_val HF rfl (by simp) rfl (v := .pointer (some ⟨b1, 0, none⟩)) (w' := w') ?_ (hK _ w' ⟨B, by rw [← hVS]; rfl, hT.keep (fun t ht => by omega) (fun t ht => by omega)⟩)
      generalize fill (VS B) L A0 = A at e7 ⊢
      simp [execOp, go_sem, i64_w, e7]
    · obtain rfl := Option.some.inj ho
      have e8 := fill_getB (B := B) HN hVS hT_ (t := 8) (j := 2) rfl rfl (hpre ⟨2, .data⟩ (by simp) rfl)
      have c1 := (hS.cell (p := ⟨b1, 0, none⟩) s1).trans x1
      have c2 := (hS.cell (p := ⟨b1, 1, none⟩) s1).trans y1
      refine st_val HF rfl (by simp) rfl (v := .agg #[.int .i64 p1.f0, .int .i64 p1.f1]) (w' := w') ?_ (hK _ w' ⟨B, by rw [← hVS]; rfl, hT.keep (fun t ht => by omega) (fun t ht => by omega)⟩)
      generalize fill (VS B) L A0 = A at e8 ⊢
      simp [execOp, go_sem, i64_w, e8, c1, c2]
    · obtain rfl := Option.some.inj ho
      have e0 := E0 B L
      refine st_val HF rfl (by simp) rfl (v := .pointer (some ⟨b1, 0, none⟩)) (w' := w') ?_ (hK _ w' ⟨B, by rw [← hVS]; rfl, hT.keep (fun t ht => by omega) (fun t ht => by omega)⟩)
      generalize fill (VS B) L A0 = A at e0 ⊢
      simp [execOp, go_sem, i64_w, e0]
    · obtain rfl := Option.some.inj ho
      have e10 := fill_getB (B := B) HN hVS hT_ (t := 10) (j := 4) rfl rfl (hpre ⟨4, .data⟩ (by simp) rfl)
      refine st_val HF rfl (by simp) rfl (v := .pointer (some ⟨b1, 0, none⟩)) (w' := w') ?_ (hK _ w' ⟨B, by rw [← hVS]; rfl, hT.keep (fun t ht => by omega) (fun t ht => by omega)⟩)
      generalize fill (VS B) L A0 = A at e10 ⊢
      simp [execOp, go_sem, i64_w, e10]
    · obtain rfl := Option.some.inj ho
      have e11 := fill_getB (B := B) HN hVS hT_ (t := 11) (j := 5) rfl rfl (hpre ⟨5, .data⟩ (by simp) rfl)
      refine st_val HF rfl (by simp) rfl (v := .pointer (some ⟨b1, 2, none⟩)) (w' := w') ?_ (hK _ w' ⟨B, by rw [← hVS]; rfl, hT.keep (fun t ht => by omega) (fun t ht => by omega)⟩)
      generalize fill (VS B) L A0 = A at e11 ⊢
      simp [execOp, go_sem, i64_w, e11]
    · obtain rfl := Option.some.inj ho
      have e12 := fill_getB (B := B) HN hVS hT_ (t := 12) (j := 6) rfl rfl (hpre ⟨6, .data⟩ (by simp) rfl)
      have c1 := (hS.cell (p := ⟨b1, 2, none⟩) s1).trans n1
      refine st_val HF rfl (by simp) rfl (v := .pointer (some ⟨b2, 0, none⟩)) (w' := w') ?_ (hK _ w' ⟨B, by rw [← hVS]; rfl, hT.keep (fun t ht => by omega) (fun t ht => by omega)⟩)
      generalize fill (VS B) L A0 = A at e12 ⊢
      simp [execOp, go_sem, i64_w, e12, c1]
    · obtain rfl := Option.some.inj ho
      have e13 := fill_getB (B := B) HN hVS hT_ (t := 13) (j := 7) rfl rfl (hpre ⟨7, .data⟩ (by simp) rfl)
      refine st_val HF rfl (by simp) rfl (v := .pointer (some ⟨b2, 0, none⟩)) (w' := w') ?_ (hK _ w' ⟨B, by rw [← hVS]; rfl, hT.keep (fun t ht => by omega) (fun t ht => by omega)⟩)
      generalize fill (VS B) L A0 = A at e13 ⊢
      simp [execOp, go_sem, i64_w, e13]
    · obtain rfl := Option.some.inj ho
      have e14 := fill_getB (B := B) HN hVS hT_ (t := 14) (j := 8) rfl rfl (hpre ⟨8, .data⟩ (by simp) rfl)
      refine st_val HF rfl (by simp) rfl (v := .pointer (some ⟨b2, 0, none⟩)) (w' := w') ?_ (hK _ w' ⟨B, by rw [← hVS]; rfl, hT.keep (fun t ht => by omega) (fun t ht => by omega)⟩)
      generalize fill (VS B) L A0 = A at e14 ⊢
      simp [execOp, go_sem, i64_w, e14]
    · obtain rfl := Option.some.inj ho
      have e15 := fill_getB (B := B) HN hVS hT_ (t := 15) (j := 9) rfl rfl (hpre ⟨9, .data⟩ (by simp) rfl)
      have c1 := (hS.cell (p := ⟨b2, 0, none⟩) s2).trans x2
      have c2 := (hS.cell (p := ⟨b2, 1, none⟩) s2).trans y2
      refine st_val HF rfl (by simp) rfl (v := .agg #[.int .i64 p2.f0, .int .i64 p2.f1]) (w' := w') ?_ (hK _ w' ⟨B, by rw [← hVS]; rfl, hT.keep (fun t ht => by omega) (fun t ht => by omega)⟩)
      generalize fill (VS B) L A0 = A at e15 ⊢
      simp [execOp, go_sem, i64_w, e15, c1, c2]
    · obtain rfl := Option.some.inj ho
      have e0 := E0 B L
      refine st_val HF rfl (by simp) rfl (v := .pointer (some ⟨b1, 0, none⟩)) (w' := w') ?_ (hK _ w' ⟨B, by rw [← hVS]; rfl, hT.keep (fun t ht => by omega) (fun t ht => by omega)⟩)
      generalize fill (VS B) L A0 = A at e0 ⊢
      simp [execOp, go_sem, i64_w, e0]
    · obtain rfl := Option.some.inj ho
      have e17 := fill_getB (B := B) HN hVS hT_ (t := 17) (j := 11) rfl rfl (hpre ⟨11, .data⟩ (by simp) rfl)
      refine st_val HF rfl (by simp) rfl (v := .pointer (some ⟨b1, 0, none⟩)) (w' := w') ?_ (hK _ w' ⟨B, by rw [← hVS]; rfl, hT.keep (fun t ht => by omega) (fun t ht => by omega)⟩)
      generalize fill (VS B) L A0 = A at e17 ⊢
      simp [execOp, go_sem, i64_w, e17]
    · obtain rfl := Option.some.inj ho
      have e18 := fill_getB (B := B) HN hVS hT_ (t := 18) (j := 12) rfl rfl (hpre ⟨12, .data⟩ (by simp) rfl)
      refine st_val HF rfl (by simp) rfl (v := .pointer (some ⟨b1, 2, none⟩)) (w' := w') ?_ (hK _ w' ⟨B, by rw [← hVS]; rfl, hT.keep (fun t ht => by omega) (fun t ht => by omega)⟩)
      generalize fill (VS B) L A0 = A at e18 ⊢
      simp [execOp, go_sem, i64_w, e18]
    · obtain rfl := Option.some.inj ho
      have e19 := fill_getB (B := B) HN hVS hT_ (t := 19) (j := 13) rfl rfl (hpre ⟨13, .data⟩ (by simp) rfl)
      have c1 := (hS.cell (p := ⟨b1, 2, none⟩) s1).trans n1
      refine st_val HF rfl (by simp) rfl (v := .pointer (some ⟨b2, 0, none⟩)) (w' := w') ?_ (hK _ w' ⟨B, by rw [← hVS]; rfl, hT.keep (fun t ht => by omega) (fun t ht => by omega)⟩)
      generalize fill (VS B) L A0 = A at e19 ⊢
      simp [execOp, go_sem, i64_w, e19, c1]
    · obtain rfl := Option.some.inj ho
      have e20 := fill_getB (B := B) HN hVS hT_ (t := 20) (j := 14) rfl rfl (hpre ⟨14, .data⟩ (by simp) rfl)
      refine st_val HF rfl (by simp) rfl (v := .pointer (some ⟨b2, 0, none⟩)) (w' := w') ?_ (hK _ w' ⟨B, by rw [← hVS]; rfl, hT.keep (fun t ht => by omega) (fun t ht => by omega)⟩)
      generalize fill (VS B) L A0 = A at e20 ⊢
      simp [execOp, go_sem, i64_w, e20]
    · obtain rfl := Option.some.inj ho
      have e21 := fill_getB (B := B) HN hVS hT_ (t := 21) (j := 15) rfl rfl (hpre ⟨15, .data⟩ (by simp) rfl)
      refine st_val HF rfl (by simp) rfl (v := .pointer (some ⟨b2, 2, none⟩)) (w' := w') ?_ (hK _ w' ⟨B, by rw [← hVS]; rfl, hT.keep (fun t ht => by omega) (fun t ht => by omega)⟩)
      generalize fill (VS B) L A0 = A at e21 ⊢
      simp [execOp, go_sem, i64_w, e21]
    · obtain rfl := Option.some.inj ho
      have e22 := fill_getB (B := B) HN hVS hT_ (t := 22) (j := 16) rfl rfl (hpre ⟨16, .data⟩ (by simp) rfl)
      have c1 := (hS.cell (p := ⟨b2, 2, none⟩) s2).trans n2
      refine st_val HF rfl (by simp) rfl (v := .pointer (some ⟨b3, 0, none⟩)) (w' := w') ?_ (hK _ w' ⟨B, by rw [← hVS]; rfl, hT.keep (fun t ht => by omega) (fun t ht => by omega)⟩)
      generalize fill (VS B) L A0 = A at e22 ⊢
      simp [execOp, go_sem, i64_w, e22, c1]
    · obtain rfl := Option.some.inj ho
      have e23 := fill_getB (B := B) HN hVS hT_ (t := 23) (j := 17) rfl rfl (hpre ⟨17, .data⟩ (by simp) rfl)
      refine st_val HF rfl (by simp) rfl (v := .pointer (some ⟨b3, 0, none⟩)) (w' := w') ?_ (hK _ w' ⟨B, by rw [← hVS]; rfl, hT.keep (fun t ht => by omega) (fun t ht => by omega)⟩)
      generalize fill (VS B) L A0 = A at e23 ⊢
      simp [execOp, go_sem, i64_w, e23]
    · obtain rfl := Option.some.inj ho
      have e24 := fill_getB (B := B) HN hVS hT_ (t := 24) (j := 18) rfl rfl (hpre ⟨18, .data⟩ (by simp) rfl)
      refine st_val HF rfl (by simp) rfl (v := .pointer (some ⟨b3, 0, none⟩)) (w' := w') ?_ (hK _ w' ⟨B, by rw [← hVS]; rfl, hT.keep (fun t ht => by omega) (fun t ht => by omega)⟩)
      generalize fill (VS B) L A0 = A at e24 ⊢
      simp [execOp, go_sem, i64_w, e24]
    · obtain rfl := Option.some.inj ho
      have e25 := fill_getB (B := B) HN hVS hT_ (t := 25) (j := 19) rfl rfl (hpre ⟨19, .data⟩ (by simp) rfl)
      have c1 := (hS.cell (p := ⟨b3, 0, none⟩) s3).trans x3
      have c2 := (hS.cell (p := ⟨b3, 1, none⟩) s3).trans y3
      refine st_val HF rfl (by simp) rfl (v := .agg #[.int .i64 p3.f0, .int .i64 p3.f1]) (w' := w') ?_ (hK _ w' ⟨B, by rw [← hVS]; rfl, hT.keep (fun t ht => by omega) (fun t ht => by omega)⟩)
      generalize fill (VS B) L A0 = A at e25 ⊢
      simp [execOp, go_sem, i64_w, e25, c1, c2]
    · obtain rfl := Option.some.inj ho
      refine st_val HF rfl (by simp) rfl (v := .pointer (some ⟨w'.heap.size, 0, none⟩)) (w' := w'.alloc (.cells #[.int .i64 0, .int .i64 0] 32)) ?_ (hK _ _ ⟨fun t => if t = 0 then w'.heap.size else B t, by rw [← hVS]; rfl, hT.alloc (r := 0) (by decide) (fun t ht hne => by omega) (fun t ht => by omega) (fun hs => ?_) _ (hSa _ hT.sz hS _)⟩)
      · generalize fill (VS B) L A0 = A
        simp [execOp, go_sem]
      · have hq := hcl 24 _ rfl hs ⟨21, .data⟩ (by simp) rfl
        rw [hli] at hq; exact absurd hq (by simp)
    · obtain rfl := Option.some.inj ho
      refine st_val HF rfl (by simp) rfl (v := .pointer (some ⟨w'.heap.size, 0, none⟩)) (w' := w'.alloc (.cells #[.int .i64 0, .int .i64 0] 32)) ?_ (hK _ _ ⟨fun t => if t = 1 then w'.heap.size else B t, by rw [← hVS]; rfl, hT.alloc (r := 1) (by decide) (fun t ht hne => by omega) (fun t ht => by omega) (fun hs => ?_) _ (hSa _ hT.sz hS _)⟩)
      · generalize fill (VS B) L A0 = A
        simp [execOp, go_sem]
      · have hq := hcl 25 _ rfl hs ⟨22, .data⟩ (by simp) rfl
        rw [hli] at hq; exact absurd hq (by simp)
    · obtain rfl := Option.some.inj ho
      refine st_val HF rfl (by simp) rfl (v := .pointer (some ⟨w'.heap.size, 0, none⟩)) (w' := w'.alloc (.cells #[.int .i64 0, .int .i64 0] 32)) ?_ (hK _ _ ⟨fun t => if t = 2 then w'.heap.size else B t, by rw [← hVS]; rfl, hT.alloc (r := 2) (by decide) (fun t ht hne => by omega) (fun t ht => by omega) (fun hs => ?_) _ (hSa _ hT.sz hS _)⟩)
      · generalize fill (VS B) L A0 = A
        simp [execOp, go_sem]
      · have hq := hcl 26 _ rfl hs ⟨23, .data⟩ (by simp) rfl
        rw [hli] at hq; exact absurd hq (by simp)
    · obtain rfl := Option.some.inj ho
      have e3 := fill_getB (B := B) HN hVS hT_ (t := 3) (j := 21) rfl rfl (hpre ⟨21, .data⟩ (by simp) rfl)
      have e9 := fill_getB (B := B) HN hVS hT_ (t := 9) (j := 3) rfl rfl (hpre ⟨3, .data⟩ (by simp) rfl)
      have hal := hpre ⟨21, .data⟩ (by simp) rfl
      obtain ⟨_, _, f0, f1, ⟨u0, k0⟩, ⟨u1, k1⟩, _⟩ := hT.box 0 (by decide) hal
      refine st_skip HF rfl (by simp) rfl (w' := (w'.setCell ⟨B 0, 0, none⟩ (.int .i64 p1.f0)).setCell ⟨B 0, 1, none⟩ (.int .i64 p1.f1)) ?_ (hK _ _ ⟨B, by rw [← hVS]; rfl, hT.store (r := 0) (by decide) (fun t ht hne => by omega) (fun t ht => by omega) hal (fun w' p v h1 h2 => hSs w' p v h1 h2)⟩)
      generalize fill (VS B) L A0 = A at e3 e9 ⊢
      simp [execOp, go_sem, k0, k1, f0, f1, e3, e9]
    · obtain rfl := Option.some.inj ho
      have e4 := fill_getB (B := B) HN hVS hT_ (t := 4) (j := 22) rfl rfl (hpre ⟨22, .data⟩ (by simp) rfl)
      have e16 := fill_getB (B := B) HN hVS hT_ (t := 16) (j := 10) rfl rfl (hpre ⟨10, .data⟩ (by simp) rfl)
      have hal := hpre ⟨22, .data⟩ (by simp) rfl
      obtain ⟨_, _, f0, f1, ⟨u0, k0⟩, ⟨u1, k1⟩, _⟩ := hT.box 1 (by decide) hal
      refine st_skip HF rfl (by simp) rfl (w' := (w'.setCell ⟨B 1, 0, none⟩ (.int .i64 p2.f0)).setCell ⟨B 1, 1, none⟩ (.int .i64 p2.f1)) ?_ (hK _ _ ⟨B, by rw [← hVS]; rfl, hT.store (r := 1) (by decide) (fun t ht hne => by omega) (fun t ht => by omega) hal (fun w' p v h1 h2 => hSs w' p v h1 h2)⟩)
      generalize fill (VS B) L A0 = A at e4 e16 ⊢
      simp [execOp, go_sem, k0, k1, f0, f1, e4, e16]
    · obtain rfl := Option.some.inj ho
      have e5 := fill_getB (B := B) HN hVS hT_ (t := 5) (j := 23) rfl rfl (hpre ⟨23, .data⟩ (by simp) rfl)
      have e26 := fill_getB (B := B) HN hVS hT_ (t := 26) (j := 20) rfl rfl (hpre ⟨20, .data⟩ (by simp) rfl)
      have hal := hpre ⟨23, .data⟩ (by simp) rfl
      obtain ⟨_, _, f0, f1, ⟨u0, k0⟩, ⟨u1, k1⟩, _⟩ := hT.box 2 (by decide) hal
      refine st_skip HF rfl (by simp) rfl (w' := (w'.setCell ⟨B 2, 0, none⟩ (.int .i64 p3.f0)).setCell ⟨B 2, 1, none⟩ (.int .i64 p3.f1)) ?_ (hK _ _ ⟨B, by rw [← hVS]; rfl, hT.store (r := 2) (by decide) (fun t ht hne => by omega) (fun t ht => by omega) hal (fun w' p v h1 h2 => hSs w' p v h1 h2)⟩)
      generalize fill (VS B) L A0 = A at e5 e26 ⊢
      simp [execOp, go_sem, k0, k1, f0, f1, e5, e26]
  · intro vs w' hV
    obtain ⟨B, rfl, hT⟩ := hV
    have hS := hT.s
    obtain ⟨bl0, bt0, bf0, bg0, _, _, bc0⟩ := hT.box 0 (by decide) rfl
    obtain ⟨bx0, by0⟩ := bc0 rfl
    obtain ⟨bl1, bt1, bf1, bg1, _, _, bc1⟩ := hT.box 1 (by decide) rfl
    obtain ⟨bx1, by1⟩ := bc1 rfl
    obtain ⟨bl2, bt2, bf2, bg2, _, _, bc2⟩ := hT.box 2 (by decide) rfl
    obtain ⟨bx2, by2⟩ := bc2 rfl
    rw [← hVS, ← hA0]
    simp only [List.size_toArray, List.length_cons, List.length_nil, Nat.reduceAdd, List.replicate, fill, if_true, Act.put, List.setIfInBounds_toArray, List.set_cons_succ, List.set_cons_zero]
    clear bc0 bc1 bc2 hT
    have HS := Aside0.mk hS
    clear hS
    cases hq : onPt p1 p2 p3
    · have hq' := Aside0.mk ((onPt_f p1 p2 p3).trans (by rw [hq]))
      have hr' := Aside0.mk (onPt_f p2 p3 p1)
      have HQ := Aside0.mk hq
      clear hq
      gi_wp2_with (first | (refine ⟨trivial, rfl, ?_⟩; gi_at_call 79; have _t := hq'; refine CallsIn.mono (callsIn_wide.2 (impl_PointOn.calls 1 p1.f0 p1.f1 p2.f0 p2.f1 p3.f0 p3.f1 false _ hq'.out)) ?_; rintro e w2 ⟨rfl, hb2⟩; obtain ⟨hc2, hf2⟩ := bcell hb2; have HS2 := Aside0.mk (HS.out.trans (hb2.mono (by have := HS.out.size; omega))); clear hb2 hq' _t) | (refine ⟨trivial, rfl, ?_⟩; gi_at_call 79; refine CallsIn.mono (callsIn_wide.2 (impl_PointOn.calls 1 p2.f0 p2.f1 p3.f0 p3.f1 p1.f0 p1.f1 (onPt p2 p3 p1) _ hr'.out)) ?_; rintro e w3 ⟨rfl, hb3⟩; have HS3 := Aside0.mk (HS2.out.trans (hb3.mono (by have := HS2.out.size; omega))); clear hb3))
      go_ret
      exact ⟨by rw [HQ.out]; rfl, HS3.out⟩
    · have hq' := Aside0.mk ((onPt_f p1 p2 p3).trans (by rw [hq]))
      have HQ := Aside0.mk hq
      have hfn : Fence.wide.fn 79 := trivial
      clear hq
      gi_wp2_with ((first | refine ⟨trivial, rfl, ?_⟩ | refine ⟨rfl, ?_⟩); gi_at_call 79; refine CallsIn.mono (callsIn_wide.2 (impl_PointOn.calls 1 p1.f0 p1.f1 p2.f0 p2.f1 p3.f0 p3.f1 true _ hq'.out)) ?_; rintro e w2 ⟨rfl, hb2⟩; have HS2 := Aside0.mk (HS.out.trans (hb2.mono (by have := HS.out.size; omega))); clear hb2)
      go_ret
      exact ⟨by rw [HQ.out]; rfl, HS2.out⟩

end Go.Proofs.Ytgdhgncdpmalcaa.Ring
namespace Go.Proofs.Ytgdhgncdpmalcaa.Drawn
open Go Go.RowKit
structure Bx (w W : World) (a0 a1 b0 b1 c0 c1 d0 d1 : Int) : Prop where
  sz : w.heap.size + 4 ≤ W.heap.size
  be : Below w.heap.size w W
  p0 : W.cell? ⟨w.heap.size, 0, none⟩ = some (.int .i64 a0)
  p1 : W.cell? ⟨w.heap.size, 1, none⟩ = some (.int .i64 a1)
  q0 : W.cell? ⟨w.heap.size + 1, 0, none⟩ = some (.int .i64 b0)
  q1 : W.cell? ⟨w.heap.size + 1, 1, none⟩ = some (.int .i64 b1)
  r0 : W.cell? ⟨w.heap.size + 2, 0, none⟩ = some (.int .i64 c0)
  r1 : W.cell? ⟨w.heap.size + 2, 1, none⟩ = some (.int .i64 c1)
  s0 : W.cell? ⟨w.heap.size + 3, 0, none⟩ = some (.int .i64 d0)
  s1 : W.cell? ⟨w.heap.size + 3, 1, none⟩ = some (.int .i64 d1)
theorem Bx.start (w : World) (T : TypeId) (a0 a1 b0 b1 c0 c1 d0 d1 : Int) : Bx w ((((w.alloc (.cells #[.int .i64 a0, .int .i64 a1] T)).alloc (.cells #[.int .i64 b0, .int .i64 b1] T)).alloc (.cells #[.int .i64 c0, .int .i64 c1] T)).alloc (.cells #[.int .i64 d0, .int .i64 d1] T)) a0 a1 b0 b1 c0 c1 d0 d1 := by
  refine ⟨by simp, ((((Below.refl _ w).alloc (Nat.le_refl _) _).alloc (by simp) _).alloc (by simp; omega) _).alloc (by simp; omega) _, ?_, ?_, ?_, ?_, ?_, ?_, ?_, ?_⟩ <;> simp [go_sem]
theorem Bx.step {w W W' : World} {a0 a1 b0 b1 c0 c1 d0 d1 : Int} (h : Bx w W a0 a1 b0 b1 c0 c1 d0 d1) (hb : Below W.heap.size W W') : Bx w W' a0 a1 b0 b1 c0 c1 d0 d1 := by
  have z := h.sz
  have z2 := hb.size
  refine ⟨by omega, h.be.trans (hb.mono (by omega)), ?_, ?_, ?_, ?_, ?_, ?_, ?_, ?_⟩
  · exact (hb.cell (p := ⟨w.heap.size, 0, none⟩) (by dsimp only; omega)).trans h.p0
  · exact (hb.cell (p := ⟨w.heap.size, 1, none⟩) (by dsimp only; omega)).trans h.p1
  · exact (hb.cell (p := ⟨w.heap.size + 1, 0, none⟩) (by dsimp only; omega)).trans h.q0
  · exact (hb.cell (p := ⟨w.heap.size + 1, 1, none⟩) (by dsimp only; omega)).trans h.q1
  · exact (hb.cell (p := ⟨w.heap.size + 2, 0, none⟩) (by dsimp only; omega)).trans h.r0
  · exact (hb.cell (p := ⟨w.heap.size + 2, 1, none⟩) (by dsimp only; omega)).trans h.r1
  · exact (hb.cell (p := ⟨w.heap.size + 3, 0, none⟩) (by dsimp only; omega)).trans h.s0
  · exact (hb.cell (p := ⟨w.heap.size + 3, 1, none⟩) (by dsimp only; omega)).trans h.s1
end Go.Proofs.Ytgdhgncdpmalcaa.Drawn
namespace Go.Proofs.Ytgdhgncdpmalcaa.Q
open Go.RowKit Go.Proofs.YtgdhgncdpmalcaaW.PrintWords Go.Proofs.YtgdhgncdpmalcaaW.PrintLast Go.Proofs.YtgdhgncdpmalcaaW.PrintMore
attribute [local go_sem] max2_int min2_int max_two min_two max_three min_three max_four min_four
set_option linter.unusedVariables false
set_option linter.unusedSimpArgs false

/-! ### impl_sidesMeet: function 84 -/
def impl_sidesMeet.j0 : Nat → Bool → Int → Int → Int → Int → Int → Int → Int → Int → Option (Bool)
  | 0, _, _, _, _, _, _, _, _, _ => none
  | k + 1, x38, x341000, x341001, x342000, x342001, x343000, x343001, x344000, x344001 => if x38 = true then (some true) else ((impl_PointSide.f k x341000 x341001 x342000 x342001 x343000 x343001).bind fun bt348 => ((impl_PointSide.f k x341000 x341001 x342000 x342001 x344000 x344001).bind fun bt350 => ((impl_PointSide.f k x343000 x343001 x344000 x344001 x341000 x341001).bind fun bt352 => ((impl_PointSide.f k x343000 x343001 x344000 x344001 x342000 x342001).bind fun bt354 => (if (wrap64 (bt348.1 * bt350.1)) < 0 then (some (decide ((wrap64 (bt352.1 * bt354.1)) < 0))) else (some false))))))
def impl_sidesMeet.f (k : Nat) (a0_0 : Int) (a0_1 : Int) (a1_0 : Int) (a1_1 : Int) (a2_0 : Int) (a2_1 : Int) (a3_0 : Int) (a3_1 : Int) : Option (Bool) := (impl_PointOn.f k a0_0 a0_1 a1_0 a1_1 a2_0 a2_1).bind fun t344 => (if t344 = true then (impl_sidesMeet.j0 k true a0_0 a0_1 a1_0 a1_1 a2_0 a2_1 a3_0 a3_1) else ((impl_PointOn.f k a0_0 a0_1 a1_0 a1_1 a3_0 a3_1).bind fun t345 => (if t345 = true then (impl_sidesMeet.j0 k true a0_0 a0_1 a1_0 a1_1 a2_0 a2_1 a3_0 a3_1) else ((impl_PointOn.f k a2_0 a2_1 a3_0 a3_1 a0_0 a0_1).bind fun t346 => (if t346 = true then (impl_sidesMeet.j0 k true a0_0 a0_1 a1_0 a1_1 a2_0 a2_1 a3_0 a3_1) else ((impl_PointOn.f k a2_0 a2_1 a3_0 a3_1 a1_0 a1_1).bind fun t347 => (impl_sidesMeet.j0 k t347 a0_0 a0_1 a1_0 a1_1 a2_0 a2_1 a3_0 a3_1)))))))
set_option maxHeartbeats 8000000 in
set_option maxRecDepth 100000 in
theorem impl_sidesMeet.calls (k : Nat) (a0_0 : Int) (a0_1 : Int) (a1_0 : Int) (a1_1 : Int) (a2_0 : Int) (a2_1 : Int) (a3_0 : Int) (a3_1 : Int) (r : Bool) (w : World) (h : impl_sidesMeet.f k a0_0 a0_1 a1_0 a1_1 a2_0 a2_1 a3_0 a3_1 = some r) :
    Calls Try.prog 84 #[.agg #[.int .i64 a0_0, .int .i64 a0_1], .agg #[.int .i64 a1_0, .int .i64 a1_1], .agg #[.int .i64 a2_0, .int .i64 a2_1], .agg #[.int .i64 a3_0, .int .i64 a3_1]] w fun e w' => e = .returned (.bool r) ∧ Below w.heap.size w w' := by
  have HX := Aside0.mk (Go.Proofs.Ytgdhgncdpmalcaa.Drawn.Bx.start w 32 a0_0 a0_1 a1_0 a1_1 a2_0 a2_1 a3_0 a3_1)
  unfold impl_sidesMeet.f at h
  obtain ⟨b1, F1, h⟩ := Option.bind_eq_some_iff.1 h
  replace F1 := Aside0.mk F1
  have fin1 : ∀ {k : Nat}, impl_sidesMeet.j0 k true a0_0 a0_1 a1_0 a1_1 a2_0 a2_1 a3_0 a3_1 = some r → r = true := by
    intro k h
    cases k with
    | zero => simp [impl_sidesMeet.j0] at h
    | succ k => rw [impl_sidesMeet.j0, if_pos rfl] at h; exact (Option.some.inj h).symm
  cases b1
  case true =>
    obtain rfl := fin1 (by simpa using h)
    (try clear h); clear fin1; go_enter Try.func84, Try.ntmps84; go_wp2_with (first | (go_at_call 79; (first | (with_reducible refine (impl_PointOn.calls _ _ _ _ _ _ _ _ _ F1.out).mono ?_) | (with_reducible refine (impl_PointOn.calls _ _ _ _ _ _ _ _ _ F2.out).mono ?_) | (with_reducible refine (impl_PointOn.calls _ _ _ _ _ _ _ _ _ F3.out).mono ?_) | (with_reducible refine (impl_PointOn.calls _ _ _ _ _ _ _ _ _ F4.out).mono ?_)); rintro e wz ⟨rfl, hb⟩; have HX2 := Aside0.mk (HX.out.step hb); clear hb HX; have HX := HX2; clear HX2; have p0 := HX.out.p0; have p1 := HX.out.p1; have q0 := HX.out.q0; have q1 := HX.out.q1; have r0 := HX.out.r0; have r1 := HX.out.r1; have s0 := HX.out.s0; have s1 := HX.out.s1) | (go_at_call 62; (first | (with_reducible refine (impl_PointSide.calls _ _ _ _ _ _ _ _ _ _  G1.out).mono ?_) | (with_reducible refine (impl_PointSide.calls _ _ _ _ _ _ _ _ _ _  G2.out).mono ?_) | (with_reducible refine (impl_PointSide.calls _ _ _ _ _ _ _ _ _ _  G3.out).mono ?_) | (with_reducible refine (impl_PointSide.calls _ _ _ _ _ _ _ _ _ _  G4.out).mono ?_)); rintro e wz ⟨rfl, hb⟩; have HX2 := Aside0.mk (HX.out.step hb); clear hb HX; have HX := HX2; clear HX2; have p0 := HX.out.p0; have p1 := HX.out.p1; have q0 := HX.out.q0; have q1 := HX.out.q1; have r0 := HX.out.r0; have r1 := HX.out.r1; have s0 := HX.out.s0; have s1 := HX.out.s1)); go_ret; exact ⟨rfl, HX.out.be⟩
  case false =>
    rw [if_neg (by decide)] at h
    obtain ⟨b2, F2, h⟩ := Option.bind_eq_some_iff.1 h
    replace F2 := Aside0.mk F2
    cases b2
    case true =>
      obtain rfl := fin1 (by simpa using h)
      (try clear h); clear fin1; go_enter Try.func84, Try.ntmps84; go_wp2_with (first | (go_at_call 79; (first | (with_reducible refine (impl_PointOn.calls _ _ _ _ _ _ _ _ _ F1.out).mono ?_) | (with_reducible refine (impl_PointOn.calls _ _ _ _ _ _ _ _ _ F2.out).mono ?_) | (with_reducible refine (impl_PointOn.calls _ _ _ _ _ _ _ _ _ F3.out).mono ?_) | (with_reducible refine (impl_PointOn.calls _ _ _ _ _ _ _ _ _ F4.out).mono ?_)); rintro e wz ⟨rfl, hb⟩; have HX2 := Aside0.mk (HX.out.step hb); clear hb HX; have HX := HX2; clear HX2; have p0 := HX.out.p0; have p1 := HX.out.p1; have q0 := HX.out.q0; have q1 := HX.out.q1; have r0 := HX.out.r0; have r1 := HX.out.r1; have s0 := HX.out.s0; have s1 := HX.out.s1) | (go_at_call 62; (first | (with_reducible refine (impl_PointSide.calls _ _ _ _ _ _ _ _ _ _  G1.out).mono ?_) | (with_reducible refine (impl_PointSide.calls _ _ _ _ _ _ _ _ _ _  G2.out).mono ?_) | (with_reducible refine (impl_PointSide.calls _ _ _ _ _ _ _ _ _ _  G3.out).mono ?_) | (with_reducible refine (impl_PointSide.calls _ _ _ _ _ _ _ _ _ _  G4.out).mono ?_)); rintro e wz ⟨rfl, hb⟩; have HX2 := Aside0.mk (HX.out.step hb); clear hb HX; have HX := HX2; clear HX2; have p0 := HX.out.p0; have p1 := HX.out.p1; have q0 := HX.out.q0; have q1 := HX.out.q1; have r0 := HX.out.r0; have r1 := HX.out.r1; have s0 := HX.out.s0; have s1 := HX.out.s1)); go_ret; exact ⟨rfl, HX.out.be⟩
    case false =>
      rw [if_neg (by decide)] at h
      obtain ⟨b3, F3, h⟩ := Option.bind_eq_some_iff.1 h
      replace F3 := Aside0.mk F3
      cases b3
      case true =>
        obtain rfl := fin1 (by simpa using h)
        (try clear h); clear fin1; go_enter Try.func84, Try.ntmps84; go_wp2_with (first | (go_at_call 79; (first | (with_reducible refine (impl_PointOn.calls _ _ _ _ _ _ _ _ _ F1.out).mono ?_) | (with_reducible refine (impl_PointOn.calls _ _ _ _ _ _ _ _ _ F2.out).mono ?_) | (with_reducible refine (impl_PointOn.calls _ _ _ _ _ _ _ _ _ F3.out).mono ?_) | (with_reducible refine (impl_PointOn.calls _ _ _ _ _ _ _ _ _ F4.out).mono ?_)); rintro e wz ⟨rfl, hb⟩; have HX2 := Aside0.mk (HX.out.step hb); clear hb HX; have HX := HX2; clear HX2; have p0 := HX.out.p0; have p1 := HX.out.p1; have q0 := HX.out.q0; have q1 := HX.out.q1; have r0 := HX.out.r0; have r1 := HX.out.r1; have s0 := HX.out.s0; have s1 := HX.out.s1) | (go_at_call 62; (first | (with_reducible refine (impl_PointSide.calls _ _ _ _ _ _ _ _ _ _  G1.out).mono ?_) | (with_reducible refine (impl_PointSide.calls _ _ _ _ _ _ _ _ _ _  G2.out).mono ?_) | (with_reducible refine (impl_PointSide.calls _ _ _ _ _ _ _ _ _ _  G3.out).mono ?_) | (with_reducible refine (impl_PointSide.calls _ _ _ _ _ _ _ _ _ _  G4.out).mono ?_)); rintro e wz ⟨rfl, hb⟩; have HX2 := Aside0.mk (HX.out.step hb); clear hb HX; have HX := HX2; clear HX2; have p0 := HX.out.p0; have p1 := HX.out.p1; have q0 := HX.out.q0; have q1 := HX.out.q1; have r0 := HX.out.r0; have r1 := HX.out.r1; have s0 := HX.out.s0; have s1 := HX.out.s1)); go_ret; exact ⟨rfl, HX.out.be⟩
      case false =>
        rw [if_neg (by decide)] at h
        obtain ⟨b4, F4, h⟩ := Option.bind_eq_some_iff.1 h
        replace F4 := Aside0.mk F4
        cases b4
        case true =>
          obtain rfl := fin1 h
          (try clear h); clear fin1; go_enter Try.func84, Try.ntmps84; go_wp2_with (first | (go_at_call 79; (first | (with_reducible refine (impl_PointOn.calls _ _ _ _ _ _ _ _ _ F1.out).mono ?_) | (with_reducible refine (impl_PointOn.calls _ _ _ _ _ _ _ _ _ F2.out).mono ?_) | (with_reducible refine (impl_PointOn.calls _ _ _ _ _ _ _ _ _ F3.out).mono ?_) | (with_reducible refine (impl_PointOn.calls _ _ _ _ _ _ _ _ _ F4.out).mono ?_)); rintro e wz ⟨rfl, hb⟩; have HX2 := Aside0.mk (HX.out.step hb); clear hb HX; have HX := HX2; clear HX2; have p0 := HX.out.p0; have p1 := HX.out.p1; have q0 := HX.out.q0; have q1 := HX.out.q1; have r0 := HX.out.r0; have r1 := HX.out.r1; have s0 := HX.out.s0; have s1 := HX.out.s1) | (go_at_call 62; (first | (with_reducible refine (impl_PointSide.calls _ _ _ _ _ _ _ _ _ _  G1.out).mono ?_) | (with_reducible refine (impl_PointSide.calls _ _ _ _ _ _ _ _ _ _  G2.out).mono ?_) | (with_reducible refine (impl_PointSide.calls _ _ _ _ _ _ _ _ _ _  G3.out).mono ?_) | (with_reducible refine (impl_PointSide.calls _ _ _ _ _ _ _ _ _ _  G4.out).mono ?_)); rintro e wz ⟨rfl, hb⟩; have HX2 := Aside0.mk (HX.out.step hb); clear hb HX; have HX := HX2; clear HX2; have p0 := HX.out.p0; have p1 := HX.out.p1; have q0 := HX.out.q0; have q1 := HX.out.q1; have r0 := HX.out.r0; have r1 := HX.out.r1; have s0 := HX.out.s0; have s1 := HX.out.s1)); go_ret; exact ⟨rfl, HX.out.be⟩
        case false =>
          cases k with
          | zero => simp [impl_sidesMeet.j0] at h
          | succ k =>
            rw [impl_sidesMeet.j0, if_neg (by decide)] at h
            obtain ⟨⟨t1, o1⟩, G1, h⟩ := Option.bind_eq_some_iff.1 h
            obtain ⟨⟨t2, o2⟩, G2, h⟩ := Option.bind_eq_some_iff.1 h
            obtain ⟨⟨t3, o3⟩, G3, h⟩ := Option.bind_eq_some_iff.1 h
            obtain ⟨⟨t4, o4⟩, G4, h⟩ := Option.bind_eq_some_iff.1 h
            replace G1 := Aside0.mk G1
            replace G2 := Aside0.mk G2
            replace G3 := Aside0.mk G3
            replace G4 := Aside0.mk G4
            dsimp only at h
            by_cases c : wrap64 (t1 * t2) < 0
            · rw [if_pos c] at h
              obtain rfl := Option.some.inj h
              have cb := decide_eq_true c
              clear h c
              (try clear h); clear fin1; go_enter Try.func84, Try.ntmps84; go_wp2_with (first | (go_at_call 79; (first | (with_reducible refine (impl_PointOn.calls _ _ _ _ _ _ _ _ _ F1.out).mono ?_) | (with_reducible refine (impl_PointOn.calls _ _ _ _ _ _ _ _ _ F2.out).mono ?_) | (with_reducible refine (impl_PointOn.calls _ _ _ _ _ _ _ _ _ F3.out).mono ?_) | (with_reducible refine (impl_PointOn.calls _ _ _ _ _ _ _ _ _ F4.out).mono ?_)); rintro e wz ⟨rfl, hb⟩; have HX2 := Aside0.mk (HX.out.step hb); clear hb HX; have HX := HX2; clear HX2; have p0 := HX.out.p0; have p1 := HX.out.p1; have q0 := HX.out.q0; have q1 := HX.out.q1; have r0 := HX.out.r0; have r1 := HX.out.r1; have s0 := HX.out.s0; have s1 := HX.out.s1) | (go_at_call 62; (first | (with_reducible refine (impl_PointSide.calls _ _ _ _ _ _ _ _ _ _  G1.out).mono ?_) | (with_reducible refine (impl_PointSide.calls _ _ _ _ _ _ _ _ _ _  G2.out).mono ?_) | (with_reducible refine (impl_PointSide.calls _ _ _ _ _ _ _ _ _ _  G3.out).mono ?_) | (with_reducible refine (impl_PointSide.calls _ _ _ _ _ _ _ _ _ _  G4.out).mono ?_)); rintro e wz ⟨rfl, hb⟩; have HX2 := Aside0.mk (HX.out.step hb); clear hb HX; have HX := HX2; clear HX2; have p0 := HX.out.p0; have p1 := HX.out.p1; have q0 := HX.out.q0; have q1 := HX.out.q1; have r0 := HX.out.r0; have r1 := HX.out.r1; have s0 := HX.out.s0; have s1 := HX.out.s1)); go_ret; exact ⟨rfl, HX.out.be⟩
            · rw [if_neg c] at h
              obtain rfl := Option.some.inj h
              have cb := decide_eq_false c
              clear h c
              (try clear h); clear fin1; go_enter Try.func84, Try.ntmps84; go_wp2_with (first | (go_at_call 79; (first | (with_reducible refine (impl_PointOn.calls _ _ _ _ _ _ _ _ _ F1.out).mono ?_) | (with_reducible refine (impl_PointOn.calls _ _ _ _ _ _ _ _ _ F2.out).mono ?_) | (with_reducible refine (impl_PointOn.calls _ _ _ _ _ _ _ _ _ F3.out).mono ?_) | (with_reducible refine (impl_PointOn.calls _ _ _ _ _ _ _ _ _ F4.out).mono ?_)); rintro e wz ⟨rfl, hb⟩; have HX2 := Aside0.mk (HX.out.step hb); clear hb HX; have HX := HX2; clear HX2; have p0 := HX.out.p0; have p1 := HX.out.p1; have q0 := HX.out.q0; have q1 := HX.out.q1; have r0 := HX.out.r0; have r1 := HX.out.r1; have s0 := HX.out.s0; have s1 := HX.out.s1) | (go_at_call 62; (first | (with_reducible refine (impl_PointSide.calls _ _ _ _ _ _ _ _ _ _  G1.out).mono ?_) | (with_reducible refine (impl_PointSide.calls _ _ _ _ _ _ _ _ _ _  G2.out).mono ?_) | (with_reducible refine (impl_PointSide.calls _ _ _ _ _ _ _ _ _ _  G3.out).mono ?_) | (with_reducible refine (impl_PointSide.calls _ _ _ _ _ _ _ _ _ _  G4.out).mono ?_)); rintro e wz ⟨rfl, hb⟩; have HX2 := Aside0.mk (HX.out.step hb); clear hb HX; have HX := HX2; clear HX2; have p0 := HX.out.p0; have p1 := HX.out.p1; have q0 := HX.out.q0; have q1 := HX.out.q1; have r0 := HX.out.r0; have r1 := HX.out.r1; have s0 := HX.out.s0; have s1 := HX.out.s1)); go_ret; exact ⟨rfl, HX.out.be⟩

end Go.Proofs.Ytgdhgncdpmalcaa.Q
namespace Go.Proofs.Ytgdhgncdpmalcaa.Ring
open Go.RowKit Go.Shelf Go.Proofs.Ytgdhgncdpmalcaa.Q Go.Proofs.Ytgdhgncdpmalcaa.Drawn Go.Proofs.YtgdhgncdpmalcaaW.PrintWords Go.Proofs.YtgdhgncdpmalcaaW.PrintLast Go.Proofs.YtgdhgncdpmalcaaW.PrintMore
set_option linter.unusedVariables false
set_option linter.unusedSimpArgs false
attribute [local go_sem] Oper.semAt_some
def sameP (p q : Pt) : Bool := p.f0 == q.f0 && (p.f1 == q.f1)
theorem run_samePt (d : Nat) (w : World) (x0 y0 x1 y1 : Int) : (Op.equalIn (d + 2) 32 (.agg #[.int .i64 x0, .int .i64 x1]) (.agg #[.int .i64 y0, .int .i64 y1])).run Try.prog w = .ok (x0 == y0 && (x1 == y1)) w := by
  refine eqA_of Try.underlying32 (by kernel_rfl) ?_
  refine eqf_cons (by rfl) (by go_simp; rfl) (by go_simp; rfl) (by go_simp) ?_
  exact eqf_last (by rfl) (by go_simp; rfl) (by go_simp; rfl) (by go_simp)
def sgnP (p q r : Pt) : Int := (Pure.sideR p.f0 p.f1 q.f0 q.f1 r.f0 r.f1).1
def meetPt (a b c d : Pt) : Bool := onPt a b c || onPt a b d || onPt c d a || onPt c d b || (decide (sgnP a b c * sgnP a b d < 0) && decide (sgnP c d a * sgnP c d b < 0))
theorem sgnP_bd (p q r : Pt) : -1 ≤ sgnP p q r ∧ sgnP p q r ≤ 1 := by
  unfold sgnP Pure.sideR Pure.sgn
  split
  · dsimp only; repeat' split
    all_goals omega
  · dsimp only; omega
theorem wrapS {x y : Int} (hx : -1 ≤ x ∧ x ≤ 1) (hy : -1 ≤ y ∧ y ≤ 1) : wrap64 (x * y) = x * y := by
  have := Pure.mul_bd (m := 1) (n := 1) hx hy (by omega) (by omega)
  unfold wrap64; omega
theorem meetPt_f (a b c d : Pt) : impl_sidesMeet.f 2 a.f0 a.f1 b.f0 b.f1 c.f0 c.f1 d.f0 d.f1 = some (meetPt a b c d) := by
  unfold impl_sidesMeet.f meetPt
  simp only [impl_sidesMeet.j0, Pure.impl_PointOn_eq, Pure.impl_PointSide_eq, Option.bind_some]
  have e : ∀ p q r : Pt, Pure.onR p.f0 p.f1 q.f0 q.f1 r.f0 r.f1 = onPt p q r := fun _ _ _ => rfl
  have e2 : ∀ p q r : Pt, (Pure.sideR p.f0 p.f1 q.f0 q.f1 r.f0 r.f1).1 = sgnP p q r := fun _ _ _ => rfl
  simp only [e, e2, wrapS (sgnP_bd _ _ _) (sgnP_bd _ _ _)]
  cases onPt a b c <;> cases onPt a b d <;> cases onPt c d a <;> cases onPt c d b <;> simp
  by_cases h : sgnP a b c * sgnP a b d < 0 <;> simp [h]
/-- Corner k is met again, t places after the next one. -/
def dupAt (l : List Pt) (k t : Nat) : Bool := sameP (at_ l ((k + 1 + t) % l.length)) (at_ l k)
def foldAt (l : List Pt) (k : Nat) : Bool := onPt (at_ l k) (nxt l k) (nxt l ((k + 1) % l.length)) || onPt (nxt l k) (nxt l ((k + 1) % l.length)) (at_ l k)
/-- Side k meets side k + 2 + t. -/
def meetAt (l : List Pt) (k t : Nat) : Bool := meetPt (at_ l k) (nxt l k) (at_ l ((k + 2 + t) % l.length)) (nxt l ((k + 2 + t) % l.length))
def simpleB (l : List Pt) : Bool := ((List.range l.length).all fun i => (List.range (l.length - 1)).all fun t => !dupAt l i t) && ((List.range l.length).all fun i => !foldAt l i && (List.range (l.length - 3)).all fun t => !meetAt l i t)
theorem simpleB_dup {l : List Pt} {i t : Nat} (hi : i < l.length) (ht : t < l.length - 1) (h : dupAt l i t = true) : simpleB l = false := by
  apply Bool.eq_false_iff.2
  intro c
  unfold simpleB at c
  simp only [Bool.and_eq_true, List.all_eq_true, List.mem_range] at c
  have := c.1 i hi t ht
  rw [h] at this; exact absurd this (by decide)
theorem simpleB_fold {l : List Pt} {i : Nat} (hi : i < l.length) (h : foldAt l i = true) : simpleB l = false := by
  apply Bool.eq_false_iff.2
  intro c
  unfold simpleB at c
  simp only [Bool.and_eq_true, List.all_eq_true, List.mem_range] at c
  have := (c.2 i hi).1
  rw [h] at this; exact absurd this (by decide)
theorem simpleB_meet {l : List Pt} {i t : Nat} (hi : i < l.length) (ht : t < l.length - 3) (h : meetAt l i t = true) : simpleB l = false := by
  apply Bool.eq_false_iff.2
  intro c
  unfold simpleB at c
  simp only [Bool.and_eq_true, List.all_eq_true, List.mem_range] at c
  have := (c.2 i hi).2 t ht
  rw [h] at this; exact absurd this (by decide)
theorem simpleB_yes {l : List Pt} (h1 : ∀ i, i < l.length → ∀ t, t < l.length - 1 → dupAt l i t = false) (h2 : ∀ i, i < l.length → foldAt l i = false ∧ ∀ t, t < l.length - 3 → meetAt l i t = false) : simpleB l = true := by
  unfold simpleB
  simp only [Bool.and_eq_true, List.all_eq_true, List.mem_range]
  exact ⟨fun i hi t ht => by rw [h1 i hi t ht]; rfl, fun i hi => ⟨by rw [(h2 i hi).1]; rfl, fun t ht => by rw [(h2 i hi).2 t ht]; rfl⟩⟩
theorem infoCorner : (Try.prog.info? 75).map (fun i => i.size) = some 3 := by kernel_rfl
theorem run_neq_same (w : World) (a : Addr) : (binOp .neq 52 (.pointer (some a)) (.pointer (some a))).run Try.prog w = .ok (.bool false) w := by
  obtain ⟨j, hj⟩ : ∃ j, Try.prog.info? 75 = some j := by
    have := infoCorner
    cases h : Try.prog.info? 75 with
    | none => rw [h] at this; cases this
    | some j => exact ⟨j, rfl⟩
  exact Lib.run_neq_ptr_same w a Try.underlying52 hj
theorem run_neq_other (w : World) {a b : Nat} (h : a ≠ b) (ha : Plain w a) (hb : Plain w b) : (binOp .neq 52 (.pointer (some ⟨a, 0, none⟩)) (.pointer (some ⟨b, 0, none⟩))).run Try.prog w = .ok (.bool true) w := by
  obtain ⟨j, hj, hz⟩ : ∃ j, Try.prog.info? 75 = some j ∧ j.size ≠ 0 := by
    have := infoCorner
    cases h : Try.prog.info? 75 with
    | none => rw [h] at this; cases this
    | some j => rw [h] at this; simp at this; exact ⟨j, rfl, by omega⟩
  obtain ⟨ca, ta, ha⟩ := ha
  obtain ⟨cb, tb, hb⟩ := hb
  have hab : (⟨a, 0, none⟩ : Addr) ≠ ⟨b, 0, none⟩ := fun e => h (by injection e)
  have hd : ∀ d : Nat, (Op.equalIn (d + 1) 52 (.pointer (some ⟨a, 0, none⟩)) (.pointer (some ⟨b, 0, none⟩))).run Try.prog w = .ok false w := fun d => by
    simp [Op.equalIn, run_underlying Try.underlying52, sizeOf, typeInfo, hj, hz, run_sameAddr_other w hab ha hb]
  simp only [binOp]
  simp [Op.equal, Op.maxDepth, hd 9999]
theorem mod_ne {k t n : Nat} (hk : k < n) (ht : t < n - 1) : (k + 1 + t) % n ≠ k := by
  intro e
  rcases Nat.lt_or_ge (k + 1 + t) n with q | q
  · rw [Nat.mod_eq_of_lt q] at e; omega
  · rw [Nat.mod_eq_sub_mod q, Nat.mod_eq_of_lt (by omega)] at e; omega
theorem mod_round {k n : Nat} (hk : k < n) (hn : 1 ≤ n) : (k + 1 + (n - 1)) % n = k := by
  rw [show k + 1 + (n - 1) = k + n from by omega, Nat.add_mod_right, Nat.mod_eq_of_lt hk]
theorem mod_next (a n : Nat) : (a % n + 1) % n = (a + 1) % n := by rw [Nat.mod_add_mod]
set_option maxRecDepth 100000 in
set_option maxHeartbeats 8000000 in
theorem simple_calls (top : Nat) (bs : Nat → Nat) (l : List Pt) (w : World) (hR : Ring w top bs l) (htop : top ≤ w.heap.size) :
    Calls Try.prog 76 #[.agg #[.pointer (some ⟨bs 0, 0, none⟩), .int .i64 l.length]] w fun e w' => e = .returned (.bool (simpleB l)) ∧ Below w.heap.size w w' := by
  refine (callsIn_wide (n := 0)).1 (callsIn_of_wp_marks Try.func76 rfl trivial ?_ rfl)
  simp only [Try.ntmps76, List.size_toArray, List.length_cons, List.length_nil, Nat.reduceAdd, Nat.reduceSub, Array.replicate_succ, Array.replicate_zero, List.push_toArray, List.append_toArray, List.nil_append, List.cons_append]
  have HR := Aside0.mk hR
  clear hR
  gi_wp2
  have hs : ((w.alloc (.cells #[.pointer (some ⟨bs 0, 0, none⟩), .int .i64 l.length] 54)).alloc (.cells #[.bool false] 4)).heap.size = w.heap.size + 2 := by simp
  obtain ⟨W0, hW0⟩ : ∃ W0, (w.alloc (.cells #[.pointer (some ⟨bs 0, 0, none⟩), .int .i64 l.length] 54)).alloc (.cells #[.bool false] 4) = W0 := ⟨_, rfl⟩
  have hc0 : W0.cell? ⟨w.heap.size + 1, 0, none⟩ = some (.bool false) := by rw [← hW0]; simp [go_sem]
  have hf0 : W0.frozen? ⟨w.heap.size + 1, 0, none⟩ = false := by rw [← hW0]; simp [go_sem]
  have ho0 : W0.cell? ⟨w.heap.size, 0, none⟩ = some (.pointer (some ⟨bs 0, 0, none⟩)) := by rw [← hW0]; simp [go_sem]
  have ho1 : W0.cell? ⟨w.heap.size, 1, none⟩ = some (.int .i64 l.length) := by rw [← hW0]; simp [go_sem]
  have hb0 : Below w.heap.size w W0 := by rw [← hW0]; exact ((Below.refl _ w).alloc (Nat.le_refl _) _).alloc (by simp) _
  rw [hW0] at hs ⊢
  clear hW0
  have HR0 := Aside0.mk ((HR.out.mono htop).below hb0)
  have kd : ∀ (D : Nat) (o : Obj), D < W0.heap.size → OwnFrom W0.heap.size (fun (_ : Nat) (W : World) => W.heap[D]? = some o) := fun D o hD => fun s A B row hs hg hr => (hg.block D (Array.getElem?_eq_some_iff.1 hs).1 (fun e => by have := (hr D e.symm).1; omega)).trans hs
  refine range_ring W0.heap.size bs l (HR0.out.mono (by omega)) (Nat.le_refl _) rfl
    (fun j W => (∀ i, i < j → ∀ t, t < l.length - 1 → dupAt l i t = false) ∧ Below W0.heap.size W0 W)
    (fun c W => c = .ret ∧ (W.cell? ⟨w.heap.size + 1, 0, none⟩ = some (.bool false) ∧ Below w.heap.size w W) ∧ ∃ i t, i < l.length ∧ t < l.length - 1 ∧ dupAt l i t = true)
    ?hI ?hIx ⟨fun i hi => by omega, Below.refl _ _⟩ ?a1 ?assign ?body ?done ?stop
  case hI => exact fun s A B row hs hg hr => ⟨hs.1, ownFrom_below (β := Unit) (Nat.le_refl _) (Nat.le_refl _) () A B row hs.2 hg hr⟩
  case hIx => exact fun c A B row hs hg hr => ⟨hs.1, ⟨cell_kept hs.2.1.1 hg (fun r e => (hr r e).2), ownFrom_below (β := Unit) (n₀ := w.heap.size) (w₀ := w) (Nat.le_refl _) (by omega) () A B row hs.2.1.2 hg hr⟩, hs.2.2⟩
  case assign =>
    intro r k W K hK
    gi_wp2
    exact hK
  case stop =>
    rintro D c W hD ⟨rfl, ⟨hc, hb⟩, i, t, hi, ht, hd⟩ hK
    have hsb := Aside0.mk (simpleB_dup hi ht hd)
    have hcD : (W.putObj D (.deferred none)).cell? ⟨w.heap.size + 1, 0, none⟩ = some (.bool false) := cell_kept hc (grownBy_putObj' _ D (.deferred none)) (fun r e => by cases e; exact ⟨_, hK, rfl⟩)
    gi_wp2
    refine ⟨by simp, .inl ⟨_, _, rfl, run_takeDeferred hK, ?_⟩⟩
    refine ⟨_, qq79, ?_, hb.trans (belowK_b (w := W0) (by omega) _ _ _ _ hD hK rfl rfl)⟩
    rw [hsb.out]
  case body =>
    rintro r k W hk ⟨hp, hb⟩ hbt
    have HF := wide_round Try.prog r
    have hbw : Below w.heap.size w W := hb0.trans (hb.mono (by omega))
    have hcW := (hb.cell (p := ⟨w.heap.size + 1, 0, none⟩) (by dsimp only; omega)).trans hc0
    have hfW := (hb.frozen (p := ⟨w.heap.size + 1, 0, none⟩) (by dsimp only; omega)).trans hf0
    have hRW := Aside0.mk (((HR0.out.mono (show w.heap.size ≤ W0.heap.size by omega)).below hb).mono hb.size)
    have hn3 := HR.out.pos
    have hnx := hRW.out.next k hk
    gi_wp2
    gi_loopg [4] (l.length - 1) (fun g v4 wr => ∃ t : Nat, t + g = l.length - 1 ∧ v4 = .pointer (some ⟨bs ((k + 1 + t) % l.length), 0, none⟩) ∧ Aside0 (∀ s, s < t → dupAt l k s = false) ∧ Aside0 (Below W.heap.size W wr))
    case atStart => exact ⟨0, by omega, rfl, ⟨fun s hs => by omega⟩, ⟨Below.refl _ _⟩⟩
    case round =>
      obtain ⟨t, ht, rfl, HD, HB⟩ := hrel
      clear hcW hfW
      cases gk with
      | zero =>
        obtain rfl : t = l.length - 1 := by omega
        rw [mod_round hk (by omega)]
        have hq := run_neq_same wr ⟨bs k, 0, none⟩
        gi_wp2
        refine ⟨KeepsFrom.of_below HB.out, HB.out.mono hb.size, fun i hi t ht => ?_, hb.trans (HB.out.mono hb.size)⟩
        by_cases e : i = k
        · subst e; exact HD.out t ht
        · exact hp i (by omega) t ht
      | succ g =>
        have hRr := Aside0.mk (hRW.out.below HB.out)
        have hjl : (k + 1 + t) % l.length < l.length := Nat.mod_lt _ (by omega)
        have hne : bs ((k + 1 + t) % l.length) ≠ bs k := fun e => mod_ne hk (by omega) (hRr.out.inj _ _ hjl hk e)
        have hq := run_neq_other wr hne (hRr.out.blk _ hjl) (hRr.out.blk _ hk)
        have hjn0 := Aside0.mk (fun w' (h : Below wr.heap.size wr w') => (hRr.out.mono HB.out.size).below h |>.next _ hjl)
        rw [mod_next] at hjn0
        have hrx := Aside0.mk (fun w' (h : Below wr.heap.size wr w') => (hRr.out.mono HB.out.size).below h |>.x k hk)
        have hry := Aside0.mk (fun w' (h : Below wr.heap.size wr w') => (hRr.out.mono HB.out.size).below h |>.y k hk)
        have hjx := Aside0.mk (fun w' (h : Below wr.heap.size wr w') => (hRr.out.mono HB.out.size).below h |>.x _ hjl)
        have hjy := Aside0.mk (fun w' (h : Below wr.heap.size wr w') => (hRr.out.mono HB.out.size).below h |>.y _ hjl)
        have hdj := Aside0.mk (show dupAt l k t = sameP (at_ l ((k + 1 + t) % l.length)) (at_ l k) from rfl)
        generalize (k + 1 + t) % l.length = j at *
        clear hne
        gi_wp2
        clear hq
        obtain ⟨VS, hVS⟩ : ∃ VS : List (Option Tmp × Value), [(some 21, .pointer (some ⟨bs j, 0, none⟩)), (some 22, .pointer (some ⟨bs j, 0, none⟩)), (some 23, .pointer (some ⟨bs j, 0, none⟩)), (some 24, .agg #[.int .i64 (at_ l j).f0, .int .i64 (at_ l j).f1]), (some 25, .pointer (some ⟨bs k, 0, none⟩)), (some 26, .pointer (some ⟨bs k, 0, none⟩)), (some 27, .pointer (some ⟨bs k, 0, none⟩)), (some 28, .agg #[.int .i64 (at_ l k).f0, .int .i64 (at_ l k).f1]), (some 29, .bool (sameP (at_ l j) (at_ l k)))] = VS := ⟨_, rfl⟩
        have HN : (VS.filterMap (·.1)).Nodup := by rw [← hVS]; exact (show List.Nodup [(21 : Tmp), (22 : Tmp), (23 : Tmp), (24 : Tmp), (25 : Tmp), (26 : Tmp), (27 : Tmp), (28 : Tmp), (29 : Tmp)] by decide)
        refine act_name fun A0 hA0 => ?_
        have E3 : ∀ L : List Bool, (fill VS L A0).tmps[3]?.getD undef = .pointer (some ⟨bs k, 0, none⟩) := fun L => fill_old _ _ _ (by rw [← hVS]; exact (show (3 : Tmp) ∉ [(21 : Tmp), (22 : Tmp), (23 : Tmp), (24 : Tmp), (25 : Tmp), (26 : Tmp), (27 : Tmp), (28 : Tmp), (29 : Tmp)] by decide)) (by rw [← hA0]; rfl)
        have E4 : ∀ L : List Bool, (fill VS L A0).tmps[4]?.getD undef = .pointer (some ⟨bs j, 0, none⟩) := fun L => fill_old _ _ _ (by rw [← hVS]; exact (show (4 : Tmp) ∉ [(21 : Tmp), (22 : Tmp), (23 : Tmp), (24 : Tmp), (25 : Tmp), (26 : Tmp), (27 : Tmp), (28 : Tmp), (29 : Tmp)] by decide)) (by rw [← hA0]; rfl)
        have hT_ : 29 < A0.tmps.size := by rw [← hA0]; simp
        refine drawn_same (by kernel_rfl) (early_spec (by kernel_rfl)) VS (by rw [← hVS]; rfl) HN (fun w' => Below wr.heap.size wr w') ((Below.refl _ _).drew) ?_ ?_
        · intro i o v L w' ho hv hpre hS K hK
          have hii : i = 0 ∨ i = 1 ∨ i = 2 ∨ i = 3 ∨ i = 4 ∨ i = 5 ∨ i = 6 ∨ i = 7 ∨ i = 8 := by have hq := (Array.getElem?_eq_some_iff.1 ho).1; simp at hq; omega
          rcases hii with rfl | rfl | rfl | rfl | rfl | rfl | rfl | rfl | rfl
          · obtain rfl := Option.some.inj ho
            obtain rfl := vs_at hVS hv rfl
            have e4 := E4 L
            refine st_val HF rfl (by simp) rfl (w' := w') ?_ (hK w' hS)
            generalize fill VS L A0 = A at e4 ⊢
            simp [execOp, go_sem, i64_w, e4]
          · obtain rfl := Option.some.inj ho
            obtain rfl := vs_at hVS hv rfl
            have e21 := fill_get HN hVS hT_ (t := 21) (j := 0) rfl rfl (hpre ⟨0, .data⟩ (by simp) rfl)
            refine st_val HF rfl (by simp) rfl (w' := w') ?_ (hK w' hS)
            generalize fill VS L A0 = A at e21 ⊢
            simp [execOp, go_sem, i64_w, e21]
          · obtain rfl := Option.some.inj ho
            obtain rfl := vs_at hVS hv rfl
            have e22 := fill_get HN hVS hT_ (t := 22) (j := 1) rfl rfl (hpre ⟨1, .data⟩ (by simp) rfl)
            refine st_val HF rfl (by simp) rfl (w' := w') ?_ (hK w' hS)
            generalize fill VS L A0 = A at e22 ⊢
            simp [execOp, go_sem, i64_w, e22]
          · obtain rfl := Option.some.inj ho
            obtain rfl := vs_at hVS hv rfl
            have e23 := fill_get HN hVS hT_ (t := 23) (j := 2) rfl rfl (hpre ⟨2, .data⟩ (by simp) rfl)
            have c1 := hjx.out w' hS
            have c2 := hjy.out w' hS
            refine st_val HF rfl (by simp) rfl (w' := w') ?_ (hK w' hS)
            generalize fill VS L A0 = A at e23 ⊢
            simp [execOp, go_sem, i64_w, e23, c1, c2]
          · obtain rfl := Option.some.inj ho
            obtain rfl := vs_at hVS hv rfl
            have e3 := E3 L
            refine st_val HF rfl (by simp) rfl (w' := w') ?_ (hK w' hS)
            generalize fill VS L A0 = A at e3 ⊢
            simp [execOp, go_sem, i64_w, e3]
          · obtain rfl := Option.some.inj ho
            obtain rfl := vs_at hVS hv rfl
            have e25 := fill_get HN hVS hT_ (t := 25) (j := 4) rfl rfl (hpre ⟨4, .data⟩ (by simp) rfl)
            refine st_val HF rfl (by simp) rfl (w' := w') ?_ (hK w' hS)
            generalize fill VS L A0 = A at e25 ⊢
            simp [execOp, go_sem, i64_w, e25]
          · obtain rfl := Option.some.inj ho
            obtain rfl := vs_at hVS hv rfl
            have e26 := fill_get HN hVS hT_ (t := 26) (j := 5) rfl rfl (hpre ⟨5, .data⟩ (by simp) rfl)
            refine st_val HF rfl (by simp) rfl (w' := w') ?_ (hK w' hS)
            generalize fill VS L A0 = A at e26 ⊢
            simp [execOp, go_sem, i64_w, e26]
          · obtain rfl := Option.some.inj ho
            obtain rfl := vs_at hVS hv rfl
            have e27 := fill_get HN hVS hT_ (t := 27) (j := 6) rfl rfl (hpre ⟨6, .data⟩ (by simp) rfl)
            have c1 := hrx.out w' hS
            have c2 := hry.out w' hS
            refine st_val HF rfl (by simp) rfl (w' := w') ?_ (hK w' hS)
            generalize fill VS L A0 = A at e27 ⊢
            simp [execOp, go_sem, i64_w, e27, c1, c2]
          · obtain rfl := Option.some.inj ho
            obtain rfl := vs_at hVS hv rfl
            have e24 := fill_get HN hVS hT_ (t := 24) (j := 3) rfl rfl (hpre ⟨3, .data⟩ (by simp) rfl)
            have e28 := fill_get HN hVS hT_ (t := 28) (j := 7) rfl rfl (hpre ⟨7, .data⟩ (by simp) rfl)
            have e24 := fill_get HN hVS hT_ (t := 24) (j := 3) rfl rfl (hpre ⟨3, .data⟩ (by simp) rfl)
            have e28 := fill_get HN hVS hT_ (t := 28) (j := 7) rfl rfl (hpre ⟨7, .data⟩ (by simp) rfl)
            refine st_val HF rfl (by simp) rfl (w' := w') ?_ (hK w' hS)
            generalize fill VS L A0 = A at e24 e28 ⊢
            simp [execOp, go_sem, e24, e28, run_samePt]
            rfl
        · intro w' hS'
          rw [← hVS, ← hA0]
          simp only [List.size_toArray, List.length_cons, List.length_nil, Nat.reduceAdd, List.replicate, fill, if_true, Act.put, List.setIfInBounds_toArray, List.set_cons_succ, List.set_cons_zero]
          clear HN E3 E4 hVS hA0 hT_
          have HS := Aside0.mk (HB.out.trans (hS'.mono HB.out.size))
          have hjn := hjn0.out w' hS'
          have hcW := ((hb.trans (HS.out.mono hb.size)).cell (p := ⟨w.heap.size + 1, 0, none⟩) (by dsimp only; omega)).trans hc0
          have hfW := ((hb.trans (HS.out.mono hb.size)).frozen (p := ⟨w.heap.size + 1, 0, none⟩) (by dsimp only; omega)).trans hf0
          clear hS'
          cases hd : sameP (at_ l j) (at_ l k)
          · have hdt := Aside0.mk (hdj.out.trans hd)
            clear hd
            gi_wp2
            gi_roundg g
            case measure => omega
            case rel => exact ⟨t + 1, by omega, rfl, ⟨fun s hs => by
              by_cases e : s = t
              · subst e; exact hdt.out
              · exact HD.out s (by omega)⟩, HS⟩
          · have hdt := Aside0.mk (hdj.out.trans hd)
            clear hd
            gi_wp2
            refine ⟨(KeepsFrom.of_below HS.out).trans ((KeepsOthers.setCell _ _ _).from _), rfl, ⟨World.cell?_setCell_same _ _ _ hcW, (hbw.trans (HS.out.mono hbw.size)).setCell (p := ⟨w.heap.size + 1, 0, none⟩) (by dsimp only; omega) _⟩, k, t, hk, by omega, hdt.out⟩
  case done =>
    rintro D W hD ⟨hp, hb⟩ hK
    have ho0' := (hb.cell (p := ⟨w.heap.size, 0, none⟩) (by dsimp only; omega)).trans ho0
    have ho1' := (hb.cell (p := ⟨w.heap.size, 1, none⟩) (by dsimp only; omega)).trans ho1
    have hlD := (Array.getElem?_eq_some_iff.1 hK).1
    have hs1 := hb.size
    gi_wp2
    refine range_ring W.heap.size bs l ((HR0.out.below (hb.mono (by omega))).mono (by omega)) (Nat.le_refl _) rfl
      (fun j V => (∀ i, i < j → foldAt l i = false ∧ ∀ t, t < l.length - 3 → meetAt l i t = false) ∧ Below W.heap.size W V)
      (fun c V => c = .ret ∧ (V.cell? ⟨w.heap.size + 1, 0, none⟩ = some (.bool false) ∧ Below w.heap.size w V ∧ V.heap[D]? = some (.deferred (some []))) ∧ simpleB l = false)
      ?hI2 ?hIx2 ⟨fun i hi => by omega, Below.refl _ _⟩ ?a2 ?assign2 ?body2 ?done2 ?stop2
    case hI2 => exact fun s A B row hs hg hr => ⟨hs.1, ownFrom_below (β := Unit) (Nat.le_refl _) (Nat.le_refl _) () A B row hs.2 hg hr⟩
    case hIx2 => exact fun c A B row hs hg hr => ⟨hs.1, ⟨cell_kept hs.2.1.1 hg (fun r e => (hr r e).2), ownFrom_below (β := Unit) (n₀ := w.heap.size) (w₀ := w) (Nat.le_refl _) (by omega) () A B row hs.2.1.2.1 hg hr,
      (hg.block D (Array.getElem?_eq_some_iff.1 hs.2.1.2.2).1 (fun e => by have := (hr D e.symm).1; omega)).trans hs.2.1.2.2⟩, hs.2.2⟩
    case assign2 =>
      intro r k V K hK
      gi_wp2
      exact hK
    case stop2 =>
      rintro D2 c V hD2 ⟨rfl, ⟨hc, hbV, hKD⟩, hsb⟩ hK2
      have hne : D ≠ D2 := by omega
      have hKD2 : (V.putObj D2 (.deferred none)).heap[D]? = some (.deferred (some [])) := (World.putObj_heap_other hne).trans hKD
      have hcD : ((V.putObj D2 (.deferred none)).putObj D (.deferred none)).cell? ⟨w.heap.size + 1, 0, none⟩ = some (.bool false) :=
        cell_kept (cell_kept hc (grownBy_putObj' _ D2 (.deferred none)) (fun r e => by cases e; exact ⟨_, hK2, rfl⟩)) (grownBy_putObj' _ D (.deferred none)) (fun r e => by cases e; exact ⟨_, hKD2, rfl⟩)
      have hSB := Aside0.mk hsb
      clear hsb
      gi_wp2
      refine ⟨by simp, .inl ⟨_, _, rfl, run_takeDeferred hK2, by simp, .inl ⟨_, _, rfl, run_takeDeferred hKD2, ?_⟩⟩⟩
      refine ⟨_, qq79, by rw [hSB.out], (hbV.trans (belowK_b (w := W0) (by omega) _ _ _ _ (by omega) hK2 rfl rfl)).trans (belowK_b (w := W0) (by omega) _ _ _ _ hD hKD2 rfl rfl)⟩
    case done2 =>
      rintro D2 V hD2 ⟨hp2, hbV⟩ hK2
      have hSB := Aside0.mk (simpleB_yes hp hp2)
      have hbV0 := hb.trans (hbV.mono hs1)
      have hcV := (hbV0.cell (p := ⟨w.heap.size + 1, 0, none⟩) (by dsimp only; omega)).trans hc0
      have hfV := (hbV0.frozen (p := ⟨w.heap.size + 1, 0, none⟩) (by dsimp only; omega)).trans hf0
      have hne : D ≠ D2 := by omega
      have hKV := (hbV.block D hlD).trans hK
      have hK2' := (KeepsOthers.setCell V ⟨w.heap.size + 1, 0, none⟩ (.bool true)).same D2 _ hK2 rfl
      have hKV' : ((V.setCell ⟨w.heap.size + 1, 0, none⟩ (.bool true)).putObj D2 (.deferred none)).heap[D]? = some (.deferred (some [])) := (World.putObj_heap_other hne).trans ((KeepsOthers.setCell V ⟨w.heap.size + 1, 0, none⟩ (.bool true)).same D _ hKV rfl)
      have hcD : (((V.setCell ⟨w.heap.size + 1, 0, none⟩ (.bool true)).putObj D2 (.deferred none)).putObj D (.deferred none)).cell? ⟨w.heap.size + 1, 0, none⟩ = some (.bool true) :=
        cell_kept (cell_kept (World.cell?_setCell_same _ _ _ hcV) (grownBy_putObj' _ D2 (.deferred none)) (fun r e => by cases e; exact ⟨_, hK2', rfl⟩)) (grownBy_putObj' _ D (.deferred none)) (fun r e => by cases e; exact ⟨_, hKV', rfl⟩)
      have hbE : Below w.heap.size w (((V.setCell ⟨w.heap.size + 1, 0, none⟩ (.bool true)).putObj D2 (.deferred none)).putObj D (.deferred none)) :=
        (((hb0.trans (hbV0.mono (by omega))).setCell (p := ⟨w.heap.size + 1, 0, none⟩) (by dsimp only; omega) _).trans (belowK_b (w := W0) (by omega) _ _ _ _ (by omega) hK2' rfl rfl)).trans (belowK_b (w := W0) (by omega) _ _ _ _ hD hKV' rfl rfl)
      clear hp hp2
      gi_wp2
      refine ⟨by simp, .inl ⟨_, _, rfl, run_takeDeferred hK2', by simp, .inl ⟨_, _, rfl, run_takeDeferred hKV', ?_⟩⟩⟩
      exact ⟨_, qq79, by rw [hSB.out], hbE⟩
    case body2 =>
      rintro r k V hk ⟨hp2, hbV⟩ hbt
      have HF := wide_round Try.prog r
      have hbV0 := hb.trans (hbV.mono hs1)
      have hRV := Aside0.mk (((HR0.out.below (hbV0.mono (by omega))).mono (show w.heap.size ≤ V.heap.size by have := hbV.size; omega)))
      have hn3 := HR.out.pos
      have hnk : (k + 1) % l.length < l.length := Nat.mod_lt _ (by omega)
      have hn2 : ((k + 1) % l.length + 1) % l.length < l.length := Nat.mod_lt _ (by omega)
      have HFO := Aside0.mk (folds_at (bs k) (bs ((k + 1) % l.length)) (bs (((k + 1) % l.length + 1) % l.length)) (at_ l k) (nxt l k) (nxt l ((k + 1) % l.length)) V (hRV.out.x k hk) (hRV.out.y k hk) (hRV.out.next k hk) (hRV.out.x _ hnk) (hRV.out.y _ hnk) (hRV.out.next _ hnk) (hRV.out.x _ hn2) (hRV.out.y _ hn2) (hRV.out.lt k hk) (hRV.out.lt _ hnk) (hRV.out.lt _ hn2))
      have hcV := (hbV0.cell (p := ⟨w.heap.size + 1, 0, none⟩) (by dsimp only; omega)).trans hc0
      have hfV := (hbV0.frozen (p := ⟨w.heap.size + 1, 0, none⟩) (by dsimp only; omega)).trans hf0
      have HBT := Aside0.mk hbV0
      cases hfo : foldAt l k
      · have HFO' := Aside0.mk (HFO.out.mono (R' := fun e w' => e = .returned (.bool false) ∧ Below V.heap.size V w') (fun e w' h => ⟨by rw [h.1]; exact congrArg (fun b => Ending.returned (.bool b)) hfo, h.2⟩))
        have HFK := Aside0.mk hfo
        clear hfo HFO hcV hfV
        gi_wp2_with ((first | refine ⟨trivial, rfl, ?_⟩ | refine ⟨rfl, ?_⟩ | skip); gi_at_call 83; refine (CallsIn.inRound r (callsIn_wide.2 HFO'.out)).mono ?_; rintro e V1 ⟨rfl, hb1⟩; have hR1 := Aside0.mk ((hRV.out.below hb1).mono hb1.size); have HB1 := Aside0.mk hb1; have hn1 := hR1.out.next k hk; have hn2' := hR1.out.next _ hnk; clear hb1)
        gi_loopg [6] (l.length - 3) (fun g v6 wr => ∃ t : Nat, t + g = l.length - 3 ∧ v6 = .pointer (some ⟨bs ((k + 2 + t) % l.length), 0, none⟩) ∧ Aside0 (∀ s, s < t → meetAt l k s = false) ∧ Aside0 (Below V1.heap.size V1 wr))
        case atStart => exact ⟨0, by omega, by first | rfl | (rw [mod_next]; rfl), ⟨fun s hs => by omega⟩, ⟨Below.refl _ _⟩⟩
        case round =>
          clear hn1 hn2'
          obtain ⟨t, ht, rfl, HD, HB⟩ := hrel
          have hRr := Aside0.mk (hR1.out.below HB.out)
          have hjl : (k + 2 + t) % l.length < l.length := Nat.mod_lt _ (by omega)
          have hjn := hRr.out.next _ hjl
          cases gk with
          | zero =>
            obtain rfl : t = l.length - 3 := by omega
            rw [mod_next, show k + 2 + (l.length - 3) + 1 = k + 1 + (l.length - 1) - 0 - 0 - 0 + 0 - 0 from by omega] at hjn
            simp only [Nat.sub_zero, Nat.add_zero] at hjn
            rw [mod_round hk (by omega)] at hjn
            have hq := run_neq_same wr ⟨bs k, 0, none⟩
            gi_wp2
            refine ⟨KeepsFrom.of_below (HB1.out.trans (HB.out.mono HB1.out.size)), (HB1.out.trans (HB.out.mono HB1.out.size)).mono hbV.size, fun i hi => ?_, hbV.trans ((HB1.out.trans (HB.out.mono HB1.out.size)).mono hbV.size)⟩
            by_cases e : i = k
            · subst e; exact ⟨HFK.out, HD.out⟩
            · exact hp2 i (by omega)
          | succ g =>
            have hml : ((k + 2 + t) % l.length + 1) % l.length < l.length := Nat.mod_lt _ (by omega)
            have hmk : ((k + 2 + t) % l.length + 1) % l.length ≠ k := by rw [mod_next, show k + 2 + t + 1 = k + 1 + (t + 2) from by omega]; exact mod_ne hk (by omega)
            have hne : bs (((k + 2 + t) % l.length + 1) % l.length) ≠ bs k := fun e => hmk (hRr.out.inj _ _ hml hk e)
            have hq := run_neq_other wr hne (hRr.out.blk _ hml) (hRr.out.blk _ hk)
            have hRm := Aside0.mk (hRr.out.mono HB.out.size)
            have hrx := Aside0.mk (fun w' (h : Below wr.heap.size wr w') => (hRm.out.below h).x k hk)
            have hry := Aside0.mk (fun w' (h : Below wr.heap.size wr w') => (hRm.out.below h).y k hk)
            have hrn := Aside0.mk (fun w' (h : Below wr.heap.size wr w') => (hRm.out.below h).next k hk)
            have hnx := Aside0.mk (fun w' (h : Below wr.heap.size wr w') => (show w'.cell? ⟨bs ((k + 1) % l.length), 0, none⟩ = some (.int .i64 (nxt l k).f0) from (hRm.out.below h).x _ hnk))
            have hny := Aside0.mk (fun w' (h : Below wr.heap.size wr w') => (show w'.cell? ⟨bs ((k + 1) % l.length), 1, none⟩ = some (.int .i64 (nxt l k).f1) from (hRm.out.below h).y _ hnk))
            have hjx := Aside0.mk (fun w' (h : Below wr.heap.size wr w') => (hRm.out.below h).x _ hjl)
            have hjy := Aside0.mk (fun w' (h : Below wr.heap.size wr w') => (hRm.out.below h).y _ hjl)
            have hjm := Aside0.mk (fun w' (h : Below wr.heap.size wr w') => (hRm.out.below h).next _ hjl)
            have hmx := Aside0.mk (fun w' (h : Below wr.heap.size wr w') => (show w'.cell? ⟨bs (((k + 2 + t) % l.length + 1) % l.length), 0, none⟩ = some (.int .i64 (nxt l ((k + 2 + t) % l.length)).f0) from (hRm.out.below h).x _ hml))
            have hmy := Aside0.mk (fun w' (h : Below wr.heap.size wr w') => (show w'.cell? ⟨bs (((k + 2 + t) % l.length + 1) % l.length), 1, none⟩ = some (.int .i64 (nxt l ((k + 2 + t) % l.length)).f1) from (hRm.out.below h).y _ hml))
            have hdj := Aside0.mk (show meetAt l k t = meetPt (at_ l k) (nxt l k) (at_ l ((k + 2 + t) % l.length)) (nxt l ((k + 2 + t) % l.length)) from rfl)
            have hj1 := Aside0.mk (show ((k + 2 + t) % l.length + 1) % l.length = (k + 2 + (t + 1)) % l.length from by rw [mod_next]; rfl)
            generalize (k + 2 + t) % l.length = j at *
            clear hne hmk
            gi_wp2
            clear hq hjn
            obtain ⟨VS, hVS⟩ : ∃ VS : List (Option Tmp × Value), [(some 52, .pointer (some ⟨bs k, 0, none⟩)), (some 53, .pointer (some ⟨bs k, 0, none⟩)), (some 54, .pointer (some ⟨bs k, 0, none⟩)), (some 55, .agg #[.int .i64 (at_ l k).f0, .int .i64 (at_ l k).f1]), (some 56, .pointer (some ⟨bs k, 0, none⟩)), (some 57, .pointer (some ⟨bs k, 0, none⟩)), (some 58, .pointer (some ⟨bs k, 2, none⟩)), (some 59, .pointer (some ⟨bs ((k + 1) % l.length), 0, none⟩)), (some 60, .pointer (some ⟨bs ((k + 1) % l.length), 0, none⟩)), (some 61, .pointer (some ⟨bs ((k + 1) % l.length), 0, none⟩)), (some 62, .agg #[.int .i64 (nxt l k).f0, .int .i64 (nxt l k).f1]), (some 63, .pointer (some ⟨bs j, 0, none⟩)), (some 64, .pointer (some ⟨bs j, 0, none⟩)), (some 65, .pointer (some ⟨bs j, 0, none⟩)), (some 66, .agg #[.int .i64 (at_ l j).f0, .int .i64 (at_ l j).f1]), (some 67, .pointer (some ⟨bs j, 0, none⟩)), (some 68, .pointer (some ⟨bs j, 0, none⟩)), (some 69, .pointer (some ⟨bs j, 2, none⟩)), (some 70, .pointer (some ⟨bs ((j + 1) % l.length), 0, none⟩)), (some 71, .pointer (some ⟨bs ((j + 1) % l.length), 0, none⟩)), (some 72, .pointer (some ⟨bs ((j + 1) % l.length), 0, none⟩)), (some 73, .agg #[.int .i64 (nxt l j).f0, .int .i64 (nxt l j).f1]), (some 74, .bool (meetPt (at_ l k) (nxt l k) (at_ l j) (nxt l j)))] = VS := ⟨_, rfl⟩
            have HN : (VS.filterMap (·.1)).Nodup := by rw [← hVS]; exact (show List.Nodup [(52 : Tmp), (53 : Tmp), (54 : Tmp), (55 : Tmp), (56 : Tmp), (57 : Tmp), (58 : Tmp), (59 : Tmp), (60 : Tmp), (61 : Tmp), (62 : Tmp), (63 : Tmp), (64 : Tmp), (65 : Tmp), (66 : Tmp), (67 : Tmp), (68 : Tmp), (69 : Tmp), (70 : Tmp), (71 : Tmp), (72 : Tmp), (73 : Tmp), (74 : Tmp)] by decide)
            refine act_name fun A0 hA0 => ?_
            have E5 : ∀ L : List Bool, (fill VS L A0).tmps[5]?.getD undef = .pointer (some ⟨bs k, 0, none⟩) := fun L => fill_old _ _ _ (by rw [← hVS]; exact (show (5 : Tmp) ∉ [(52 : Tmp), (53 : Tmp), (54 : Tmp), (55 : Tmp), (56 : Tmp), (57 : Tmp), (58 : Tmp), (59 : Tmp), (60 : Tmp), (61 : Tmp), (62 : Tmp), (63 : Tmp), (64 : Tmp), (65 : Tmp), (66 : Tmp), (67 : Tmp), (68 : Tmp), (69 : Tmp), (70 : Tmp), (71 : Tmp), (72 : Tmp), (73 : Tmp), (74 : Tmp)] by decide)) (by rw [← hA0]; rfl)
            have E6 : ∀ L : List Bool, (fill VS L A0).tmps[6]?.getD undef = .pointer (some ⟨bs j, 0, none⟩) := fun L => fill_old _ _ _ (by rw [← hVS]; exact (show (6 : Tmp) ∉ [(52 : Tmp), (53 : Tmp), (54 : Tmp), (55 : Tmp), (56 : Tmp), (57 : Tmp), (58 : Tmp), (59 : Tmp), (60 : Tmp), (61 : Tmp), (62 : Tmp), (63 : Tmp), (64 : Tmp), (65 : Tmp), (66 : Tmp), (67 : Tmp), (68 : Tmp), (69 : Tmp), (70 : Tmp), (71 : Tmp), (72 : Tmp), (73 : Tmp), (74 : Tmp)] by decide)) (by rw [← hA0]; rfl)
            have hT_ : 74 < A0.tmps.size := by rw [← hA0]; simp
            refine drawn_same (by kernel_rfl) (early_spec (by kernel_rfl)) VS (by rw [← hVS]; rfl) HN (fun w' => Below wr.heap.size wr w') ((Below.refl _ _).drew) ?_ ?_
            · intro i o v L w' ho hv hpre hS K hK
              have hii : i = 0 ∨ i = 1 ∨ i = 2 ∨ i = 3 ∨ i = 4 ∨ i = 5 ∨ i = 6 ∨ i = 7 ∨ i = 8 ∨ i = 9 ∨ i = 10 ∨ i = 11 ∨ i = 12 ∨ i = 13 ∨ i = 14 ∨ i = 15 ∨ i = 16 ∨ i = 17 ∨ i = 18 ∨ i = 19 ∨ i = 20 ∨ i = 21 ∨ i = 22 := by have hq := (Array.getElem?_eq_some_iff.1 ho).1; simp at hq; omega
              rcases hii with rfl | rfl | rfl | rfl | rfl | rfl | rfl | rfl | rfl | rfl | rfl | rfl | rfl | rfl | rfl | rfl | rfl | rfl | rfl | rfl | rfl | rfl | rfl
              · obtain rfl := Option.some.inj ho
                obtain rfl := vs_at hVS hv rfl
                have e5 := E5 L
                refine st_val HF rfl (by simp) rfl (w' := w') ?_ (hK w' hS)
                generalize fill VS L A0 = A at e5 ⊢
                simp [execOp, go_sem, i64_w, e5]
              · obtain rfl := Option.some.inj ho
                obtain rfl := vs_at hVS hv rfl
                have e52 := fill_get HN hVS hT_ (t := 52) (j := 0) rfl rfl (hpre ⟨0, .data⟩ (by simp) rfl)
                refine st_val HF rfl (by simp) rfl (w' := w') ?_ (hK w' hS)
                generalize fill VS L A0 = A at e52 ⊢
                simp [execOp, go_sem, i64_w, e52]
              · obtain rfl := Option.some.inj ho
                obtain rfl := vs_at hVS hv rfl
                have e53 := fill_get HN hVS hT_ (t := 53) (j := 1) rfl rfl (hpre ⟨1, .data⟩ (by simp) rfl)
                refine st_val HF rfl (by simp) rfl (w' := w') ?_ (hK w' hS)
                generalize fill VS L A0 = A at e53 ⊢
                simp [execOp, go_sem, i64_w, e53]
              · obtain rfl := Option.some.inj ho
                obtain rfl := vs_at hVS hv rfl
                have e54 := fill_get HN hVS hT_ (t := 54) (j := 2) rfl rfl (hpre ⟨2, .data⟩ (by simp) rfl)
                have c1 := hrx.out w' hS
                have c2 := hry.out w' hS
                refine st_val HF rfl (by simp) rfl (w' := w') ?_ (hK w' hS)
                generalize fill VS L A0 = A at e54 ⊢
                simp [execOp, go_sem, i64_w, e54, c1, c2]
              · obtain rfl := Option.some.inj ho
                obtain rfl := vs_at hVS hv rfl
                have e5 := E5 L
                refine st_val HF rfl (by simp) rfl (w' := w') ?_ (hK w' hS)
                generalize fill VS L A0 = A at e5 ⊢
                simp [execOp, go_sem, i64_w, e5]
              · obtain rfl := Option.some.inj ho
                obtain rfl := vs_at hVS hv rfl
                have e56 := fill_get HN hVS hT_ (t := 56) (j := 4) rfl rfl (hpre ⟨4, .data⟩ (by simp) rfl)
                refine st_val HF rfl (by simp) rfl (w' := w') ?_ (hK w' hS)
                generalize fill VS L A0 = A at e56 ⊢
                simp [execOp, go_sem, i64_w, e56]
              · obtain rfl := Option.some.inj ho
                obtain rfl := vs_at hVS hv rfl
                have e57 := fill_get HN hVS hT_ (t := 57) (j := 5) rfl rfl (hpre ⟨5, .data⟩ (by simp) rfl)
                refine st_val HF rfl (by simp) rfl (w' := w') ?_ (hK w' hS)
                generalize fill VS L A0 = A at e57 ⊢
                simp [execOp, go_sem, i64_w, e57]
              · obtain rfl := Option.some.inj ho
                obtain rfl := vs_at hVS hv rfl
                have e58 := fill_get HN hVS hT_ (t := 58) (j := 6) rfl rfl (hpre ⟨6, .data⟩ (by simp) rfl)
                have c1 := hrn.out w' hS
                refine st_val HF rfl (by simp) rfl (w' := w') ?_ (hK w' hS)
                generalize fill VS L A0 = A at e58 ⊢
                simp [execOp, go_sem, i64_w, e58, c1]
              · obtain rfl := Option.some.inj ho
                obtain rfl := vs_at hVS hv rfl
                have e59 := fill_get HN hVS hT_ (t := 59) (j := 7) rfl rfl (hpre ⟨7, .data⟩ (by simp) rfl)
                refine st_val HF rfl (by simp) rfl (w' := w') ?_ (hK w' hS)
                generalize fill VS L A0 = A at e59 ⊢
                simp [execOp, go_sem, i64_w, e59]
              · obtain rfl := Option.some.inj ho
                obtain rfl := vs_at hVS hv rfl
                have e60 := fill_get HN hVS hT_ (t := 60) (j := 8) rfl rfl (hpre ⟨8, .data⟩ (by simp) rfl)
                refine st_val HF rfl (by simp) rfl (w' := w') ?_ (hK w' hS)
                generalize fill VS L A0 = A at e60 ⊢
                simp [execOp, go_sem, i64_w, e60]
              · obtain rfl := Option.some.inj ho
                obtain rfl := vs_at hVS hv rfl
                have e61 := fill_get HN hVS hT_ (t := 61) (j := 9) rfl rfl (hpre ⟨9, .data⟩ (by simp) rfl)
                have c1 := hnx.out w' hS
                have c2 := hny.out w' hS
                refine st_val HF rfl (by simp) rfl (w' := w') ?_ (hK w' hS)
                generalize fill VS L A0 = A at e61 ⊢
                simp [execOp, go_sem, i64_w, e61, c1, c2]
              · obtain rfl := Option.some.inj ho
                obtain rfl := vs_at hVS hv rfl
                have e6 := E6 L
                refine st_val HF rfl (by simp) rfl (w' := w') ?_ (hK w' hS)
                generalize fill VS L A0 = A at e6 ⊢
                simp [execOp, go_sem, i64_w, e6]
              · obtain rfl := Option.some.inj ho
                obtain rfl := vs_at hVS hv rfl
                have e63 := fill_get HN hVS hT_ (t := 63) (j := 11) rfl rfl (hpre ⟨11, .data⟩ (by simp) rfl)
                refine st_val HF rfl (by simp) rfl (w' := w') ?_ (hK w' hS)
                generalize fill VS L A0 = A at e63 ⊢
                simp [execOp, go_sem, i64_w, e63]
              · obtain rfl := Option.some.inj ho
                obtain rfl := vs_at hVS hv rfl
                have e64 := fill_get HN hVS hT_ (t := 64) (j := 12) rfl rfl (hpre ⟨12, .data⟩ (by simp) rfl)
                refine st_val HF rfl (by simp) rfl (w' := w') ?_ (hK w' hS)
                generalize fill VS L A0 = A at e64 ⊢
                simp [execOp, go_sem, i64_w, e64]
              · obtain rfl := Option.some.inj ho
                obtain rfl := vs_at hVS hv rfl
                have e65 := fill_get HN hVS hT_ (t := 65) (j := 13) rfl rfl (hpre ⟨13, .data⟩ (by simp) rfl)
                have c1 := hjx.out w' hS
                have c2 := hjy.out w' hS
                refine st_val HF rfl (by simp) rfl (w' := w') ?_ (hK w' hS)
                generalize fill VS L A0 = A at e65 ⊢
                simp [execOp, go_sem, i64_w, e65, c1, c2]
              · obtain rfl := Option.some.inj ho
                obtain rfl := vs_at hVS hv rfl
                have e6 := E6 L
                refine st_val HF rfl (by simp) rfl (w' := w') ?_ (hK w' hS)
                generalize fill VS L A0 = A at e6 ⊢
                simp [execOp, go_sem, i64_w, e6]
              · obtain rfl := Option.some.inj ho
                obtain rfl := vs_at hVS hv rfl
                have e67 := fill_get HN hVS hT_ (t := 67) (j := 15) rfl rfl (hpre ⟨15, .data⟩ (by simp) rfl)
                refine st_val HF rfl (by simp) rfl (w' := w') ?_ (hK w' hS)
                generalize fill VS L A0 = A at e67 ⊢
                simp [execOp, go_sem, i64_w, e67]
              · obtain rfl := Option.some.inj ho
                obtain rfl := vs_at hVS hv rfl
                have e68 := fill_get HN hVS hT_ (t := 68) (j := 16) rfl rfl (hpre ⟨16, .data⟩ (by simp) rfl)
                refine st_val HF rfl (by simp) rfl (w' := w') ?_ (hK w' hS)
                generalize fill VS L A0 = A at e68 ⊢
                simp [execOp, go_sem, i64_w, e68]
              · obtain rfl := Option.some.inj ho
                obtain rfl := vs_at hVS hv rfl
                have e69 := fill_get HN hVS hT_ (t := 69) (j := 17) rfl rfl (hpre ⟨17, .data⟩ (by simp) rfl)
                have c1 := hjm.out w' hS
                refine st_val HF rfl (by simp) rfl (w' := w') ?_ (hK w' hS)
                generalize fill VS L A0 = A at e69 ⊢
                simp [execOp, go_sem, i64_w, e69, c1]
              · obtain rfl := Option.some.inj ho
                obtain rfl := vs_at hVS hv rfl
                have e70 := fill_get HN hVS hT_ (t := 70) (j := 18) rfl rfl (hpre ⟨18, .data⟩ (by simp) rfl)
                refine st_val HF rfl (by simp) rfl (w' := w') ?_ (hK w' hS)
                generalize fill VS L A0 = A at e70 ⊢
                simp [execOp, go_sem, i64_w, e70]
              · obtain rfl := Option.some.inj ho
                obtain rfl := vs_at hVS hv rfl
                have e71 := fill_get HN hVS hT_ (t := 71) (j := 19) rfl rfl (hpre ⟨19, .data⟩ (by simp) rfl)
                refine st_val HF rfl (by simp) rfl (w' := w') ?_ (hK w' hS)
                generalize fill VS L A0 = A at e71 ⊢
                simp [execOp, go_sem, i64_w, e71]
              · obtain rfl := Option.some.inj ho
                obtain rfl := vs_at hVS hv rfl
                have e72 := fill_get HN hVS hT_ (t := 72) (j := 20) rfl rfl (hpre ⟨20, .data⟩ (by simp) rfl)
                have c1 := hmx.out w' hS
                have c2 := hmy.out w' hS
                refine st_val HF rfl (by simp) rfl (w' := w') ?_ (hK w' hS)
                generalize fill VS L A0 = A at e72 ⊢
                simp [execOp, go_sem, i64_w, e72, c1, c2]
              · obtain rfl := Option.some.inj ho
                obtain rfl := vs_at hVS hv rfl
                have e55 := fill_get HN hVS hT_ (t := 55) (j := 3) rfl rfl (hpre ⟨3, .data⟩ (by simp) rfl)
                have e62 := fill_get HN hVS hT_ (t := 62) (j := 10) rfl rfl (hpre ⟨10, .data⟩ (by simp) rfl)
                have e66 := fill_get HN hVS hT_ (t := 66) (j := 14) rfl rfl (hpre ⟨14, .data⟩ (by simp) rfl)
                have e73 := fill_get HN hVS hT_ (t := 73) (j := 21) rfl rfl (hpre ⟨21, .data⟩ (by simp) rfl)
                refine st_call HF rfl (by simp) rfl (w := w') (f := 84) (args := #[.agg #[.int .i64 (at_ l k).f0, .int .i64 (at_ l k).f1], .agg #[.int .i64 (nxt l k).f0, .int .i64 (nxt l k).f1], .agg #[.int .i64 (at_ l j).f0, .int .i64 (at_ l j).f1], .agg #[.int .i64 (nxt l j).f0, .int .i64 (nxt l j).f1]]) (v := .bool (meetPt (at_ l k) (nxt l k) (at_ l j) (nxt l j))) ?_ ?_
                · generalize fill VS L A0 = A at e55 e62 e66 e73 ⊢
                  simp [execOp, resolve, go_sem, e55, e62, e66, e73]
                · refine (impl_sidesMeet.calls 2 _ _ _ _ _ _ _ _ _ w' (meetPt_f (at_ l k) (nxt l k) (at_ l j) (nxt l j))).mono ?_; rintro e w2 ⟨rfl, hb2⟩; exact ⟨rfl, hK w2 (hS.trans (hb2.mono hS.size))⟩
            · intro w' hS'
              rw [← hVS, ← hA0]
              simp only [List.size_toArray, List.length_cons, List.length_nil, Nat.reduceAdd, List.replicate, fill, if_true, Act.put, List.setIfInBounds_toArray, List.set_cons_succ, List.set_cons_zero]
              clear HN E5 E6 hVS hA0 hT_
              have HS := Aside0.mk (HB.out.trans (hS'.mono HB.out.size))
              have hjn := hjm.out w' hS'
              have HV := Aside0.mk (HB1.out.trans (HS.out.mono HB1.out.size))
              have hcW := ((HBT.out.trans (HV.out.mono HBT.out.size)).cell (p := ⟨w.heap.size + 1, 0, none⟩) (by dsimp only; omega)).trans hc0
              have hfW := ((HBT.out.trans (HV.out.mono HBT.out.size)).frozen (p := ⟨w.heap.size + 1, 0, none⟩) (by dsimp only; omega)).trans hf0
              clear hS'
              cases hd : meetPt (at_ l k) (nxt l k) (at_ l j) (nxt l j)
              · have hdt := Aside0.mk (hdj.out.trans hd)
                clear hd
                gi_wp2
                gi_roundg g
                case measure => omega
                case rel => exact ⟨t + 1, by omega, by rw [hj1.out], ⟨fun s hs => by
                  by_cases e : s = t
                  · subst e; exact hdt.out
                  · exact HD.out s (by omega)⟩, HS⟩
              · have hdt := Aside0.mk (simpleB_meet hk (show t < l.length - 3 by omega) (hdj.out.trans hd))
                clear hd
                gi_wp2
                refine ⟨(KeepsFrom.of_below HV.out).trans ((KeepsOthers.setCell _ _ _).from _), rfl, ⟨World.cell?_setCell_same _ _ _ hcW, (hb0.trans ((HBT.out.trans (HV.out.mono HBT.out.size)).mono (by omega))).setCell (p := ⟨w.heap.size + 1, 0, none⟩) (by dsimp only; omega) _, ?_⟩, hdt.out⟩
                exact (KeepsOthers.setCell _ _ _).same D _ ((HV.out.block D (by have := hbV.size; omega)).trans ((hbV.block D hlD).trans hK)) rfl
      · have HFO' := Aside0.mk (HFO.out.mono (R' := fun e w' => e = .returned (.bool true) ∧ Below V.heap.size V w') (fun e w' h => ⟨by rw [h.1]; exact congrArg (fun b => Ending.returned (.bool b)) hfo, h.2⟩))
        have hSB := Aside0.mk (simpleB_fold hk hfo)
        clear hfo HFO hcV hfV
        gi_wp2_with ((first | refine ⟨trivial, rfl, ?_⟩ | refine ⟨rfl, ?_⟩ | skip); gi_at_call 83; refine (CallsIn.inRound r (callsIn_wide.2 HFO'.out)).mono ?_; rintro e V1 ⟨rfl, hb1⟩; have HV := Aside0.mk hb1; have hcW := ((HBT.out.trans (hb1.mono HBT.out.size)).cell (p := ⟨w.heap.size + 1, 0, none⟩) (by dsimp only; omega)).trans hc0; have hfW := ((HBT.out.trans (hb1.mono HBT.out.size)).frozen (p := ⟨w.heap.size + 1, 0, none⟩) (by dsimp only; omega)).trans hf0; clear hb1)
        refine ⟨(KeepsFrom.of_below HV.out).trans ((KeepsOthers.setCell _ _ _).from _), rfl, ⟨World.cell?_setCell_same _ _ _ hcW, (hb0.trans ((HBT.out.trans (HV.out.mono HBT.out.size)).mono (by omega))).setCell (p := ⟨w.heap.size + 1, 0, none⟩) (by dsimp only; omega) _, ?_⟩, hSB.out⟩
        exact (KeepsOthers.setCell _ _ _).same D _ ((HV.out.block D (by have := hbV.size; omega)).trans ((hbV.block D hlD).trans hK)) rfl

end Go.Proofs.Ytgdhgncdpmalcaa.Ring
namespace Go.Proofs.Ytgdhgncdpmalcaa.Ring
open Go.RowKit Go.Shelf Go.Proofs.Ytgdhgncdpmalcaa.Q Go.Proofs.Ytgdhgncdpmalcaa.Drawn Go.Proofs.YtgdhgncdpmalcaaW.PrintWords Go.Proofs.YtgdhgncdpmalcaaW.PrintLast Go.Proofs.YtgdhgncdpmalcaaW.PrintMore
set_option linter.unusedVariables false
set_option linter.unusedSimpArgs false
attribute [local go_sem] Oper.semAt_some

def okS (l : List Pt) : Bool := Pure.cvB l && simpleB l
theorem simple_b (top : Nat) (bs : Nat → Nat) (l : List Pt) (w : World) (hR : Ring w top bs l) (htop : top ≤ w.heap.size) (b : Bool) (h : simpleB l = b) :
    Calls Try.prog 76 #[.agg #[.pointer (some ⟨bs 0, 0, none⟩), .int .i64 l.length]] w fun e w' => e = .returned (.bool b) ∧ Below w.heap.size w w' := by
  rw [← h]; exact simple_calls top bs l w hR htop
set_option maxRecDepth 100000 in
set_option maxHeartbeats 4000000 in
theorem simple_isnt_a (A0 : Option Addr) (c0 : Nat) (l0 : List Pt) (w : World) (hr0 : Kd.C k32 w A0 l0.length l0) (hc0 : l0.length ≤ c0) (h : Pure.cvB l0 = false) :
    Calls Try.prog 49 #[.slice A0 l0.length c0] w (NoRing w) := by
  have HR0 := Aside0.mk hr0
  have HC0 := Aside0.mk hc0
  have HX := Aside0.mk h
  clear hr0 hc0 h
  go_enter Try.func49, Try.ntmps49
  go_wp2_with (go_at_call 43; refine (outline_isnt A0 c0 l0 _ ?s1 HC0.out HX.out).mono ?_; (case s1 => exact qq61); rintro e w1 ⟨rfl, hb⟩; have hz : w.heap.size < w1.heap.size := qq74; have hz1 : ¬ w1.heap.size = w.heap.size := (by omega); have hz2 : ¬ w.heap.size = w1.heap.size := (by omega); have HB := Aside0.mk (((Below.refl w.heap.size w).alloc (Nat.le_refl _) _).trans (hb.mono (by simp))); have hb' := Below.mono hb (B' := w.heap.size + 1) (by simp); have z0 := (at_new hb' 0).1; have z1 := (at_new hb' 1).1; have y0 := (at_new hb' 0).2; have y1 := (at_new hb' 1).2; simp [go_sem] at z0 z1 y0 y1; clear hb hb')
  refine bodyPost_ret (v := .tuple #[.agg #[.pointer none, .int .i64 0], .bool false]) (by simp [results, Try.results49, go_sem, z0, z1, hz, hz1, hz2]) rfl ⟨rfl, ?_⟩
  exact ((HB.out.setCell (p := ⟨w.heap.size, 0, none⟩) (Nat.le_refl _) _).setCell (p := ⟨w.heap.size, 1, none⟩) (Nat.le_refl _) _).alloc (by simp; omega) _
set_option maxRecDepth 100000 in
set_option maxHeartbeats 4000000 in
theorem simple_isnt_b (A0 : Option Addr) (c0 : Nat) (l0 : List Pt) (w : World) (hr0 : Kd.C k32 w A0 l0.length l0) (hc0 : l0.length ≤ c0) (h : Pure.cvB l0 = true) (hn : simpleB l0 = false) :
    Calls Try.prog 49 #[.slice A0 l0.length c0] w (NoRing w) := by
  have HR0 := Aside0.mk hr0
  have HC0 := Aside0.mk hc0
  have HX := Aside0.mk h
  have HN := Aside0.mk hn
  clear hr0 hc0 h hn
  go_enter Try.func49, Try.ntmps49
  go_wp2_with (first | (go_at_call 43; refine (outline_is A0 c0 l0 _ ?s1 HC0.out HX.out).mono ?_; (case s1 => exact qq61); rintro e w1 ⟨bs, rfl, hR, hlo0, hb⟩; have HLO := Aside0.mk (fun j hj => (show w.heap.size + 1 ≤ bs j from by have := hlo0 j hj; simpa using this)); clear hlo0; have hz : w.heap.size < w1.heap.size := qq74; have hz1 : ¬ w1.heap.size = w.heap.size := (by omega); have hz2 : ¬ w.heap.size = w1.heap.size := (by omega); have HB := Aside0.mk (((Below.refl w.heap.size w).alloc (Nat.le_refl _) _).trans (hb.mono (by simp))); have hb' := Below.mono hb (B' := w.heap.size + 1) (by simp); have z0 := (at_new hb' 0).1; have z1 := (at_new hb' 1).1; have y0 := (at_new hb' 0).2; have y1 := (at_new hb' 1).2; simp [go_sem] at z0 z1 y0 y1; have HR := Aside0.mk hR; clear hb hb' hR) | (go_at_call 76; refine (simple_b w1.heap.size bs l0 _ (HR.out.below ((Below.refl _ _).alloc (Nat.le_refl _) _)) (by simp) false HN.out).mono ?_; rintro e w2 ⟨rfl, hb2⟩; have hs2 : w1.heap.size + 1 ≤ w2.heap.size := (by have := hb2.size; simp at this; omega); have HB2 := Aside0.mk ((HB.out.alloc (by omega) (.cells #[.pointer (some ⟨bs 0, 0, none⟩), .int .i64 l0.length] 54)).trans (hb2.mono (by simp; omega))); have hb1 : Below (w1.heap.size + 1) (w1.alloc (.cells #[.pointer (some ⟨bs 0, 0, none⟩), .int .i64 l0.length] 54)) w2 := hb2.mono (by simp); have q0 := ((((Below.refl w1.heap.size w1).alloc (Nat.le_refl _) _).trans (hb1.mono (by omega))).cell (p := ⟨w.heap.size, 0, none⟩) hz).trans z0; have q1 := ((((Below.refl w1.heap.size w1).alloc (Nat.le_refl _) _).trans (hb1.mono (by omega))).cell (p := ⟨w.heap.size, 1, none⟩) hz).trans z1; have x0 := ((((Below.refl w1.heap.size w1).alloc (Nat.le_refl _) _).trans (hb1.mono (by omega))).frozen (p := ⟨w.heap.size, 0, none⟩) hz).trans y0; have x1 := ((((Below.refl w1.heap.size w1).alloc (Nat.le_refl _) _).trans (hb1.mono (by omega))).frozen (p := ⟨w.heap.size, 1, none⟩) hz).trans y1; have v0 := (at_new hb1 0).1; have v1 := (at_new hb1 1).1; simp at v0 v1; have HR2 := Aside0.mk (((HR.out.below ((Below.refl _ _).alloc (Nat.le_refl _) _)).below (hb1.mono (by omega)) |>.mono (show w1.heap.size ≤ w2.heap.size by omega))); clear hb2 hb1))
  refine bodyPost_ret (v := .tuple #[.agg #[.pointer none, .int .i64 0], .bool false]) (by simp [results, Try.results49, go_sem, q0, q1, hz, hz1, hz2]) rfl ⟨rfl, ?_⟩
  exact (HB2.out.setCell (p := ⟨w.heap.size, 0, none⟩) (Nat.le_refl _) _).setCell (p := ⟨w.heap.size, 1, none⟩) (Nat.le_refl _) _
set_option maxRecDepth 100000 in
set_option maxHeartbeats 4000000 in
theorem simple_is (A0 : Option Addr) (c0 : Nat) (l0 : List Pt) (w : World) (hr0 : Kd.C k32 w A0 l0.length l0) (hc0 : l0.length ≤ c0) (h : Pure.cvB l0 = true) (hn : simpleB l0 = true) :
    Calls Try.prog 49 #[.slice A0 l0.length c0] w (IsRing w l0) := by
  have HR0 := Aside0.mk hr0
  have HC0 := Aside0.mk hc0
  have HX := Aside0.mk h
  have HN := Aside0.mk hn
  clear hr0 hc0 h hn
  go_enter Try.func49, Try.ntmps49
  go_wp2_with (first | (go_at_call 43; refine (outline_is A0 c0 l0 _ ?s1 HC0.out HX.out).mono ?_; (case s1 => exact qq61); rintro e w1 ⟨bs, rfl, hR, hlo0, hb⟩; have HLO := Aside0.mk (fun j hj => (show w.heap.size + 1 ≤ bs j from by have := hlo0 j hj; simpa using this)); clear hlo0; have hz : w.heap.size < w1.heap.size := qq74; have hz1 : ¬ w1.heap.size = w.heap.size := (by omega); have hz2 : ¬ w.heap.size = w1.heap.size := (by omega); have HB := Aside0.mk (((Below.refl w.heap.size w).alloc (Nat.le_refl _) _).trans (hb.mono (by simp))); have hb' := Below.mono hb (B' := w.heap.size + 1) (by simp); have z0 := (at_new hb' 0).1; have z1 := (at_new hb' 1).1; have y0 := (at_new hb' 0).2; have y1 := (at_new hb' 1).2; simp [go_sem] at z0 z1 y0 y1; have HR := Aside0.mk hR; clear hb hb' hR) | (go_at_call 76; refine (simple_b w1.heap.size bs l0 _ (HR.out.below ((Below.refl _ _).alloc (Nat.le_refl _) _)) (by simp) true HN.out).mono ?_; rintro e w2 ⟨rfl, hb2⟩; have hs2 : w1.heap.size + 1 ≤ w2.heap.size := (by have := hb2.size; simp at this; omega); have HB2 := Aside0.mk ((HB.out.alloc (by omega) (.cells #[.pointer (some ⟨bs 0, 0, none⟩), .int .i64 l0.length] 54)).trans (hb2.mono (by simp; omega))); have hb1 : Below (w1.heap.size + 1) (w1.alloc (.cells #[.pointer (some ⟨bs 0, 0, none⟩), .int .i64 l0.length] 54)) w2 := hb2.mono (by simp); have q0 := ((((Below.refl w1.heap.size w1).alloc (Nat.le_refl _) _).trans (hb1.mono (by omega))).cell (p := ⟨w.heap.size, 0, none⟩) hz).trans z0; have q1 := ((((Below.refl w1.heap.size w1).alloc (Nat.le_refl _) _).trans (hb1.mono (by omega))).cell (p := ⟨w.heap.size, 1, none⟩) hz).trans z1; have x0 := ((((Below.refl w1.heap.size w1).alloc (Nat.le_refl _) _).trans (hb1.mono (by omega))).frozen (p := ⟨w.heap.size, 0, none⟩) hz).trans y0; have x1 := ((((Below.refl w1.heap.size w1).alloc (Nat.le_refl _) _).trans (hb1.mono (by omega))).frozen (p := ⟨w.heap.size, 1, none⟩) hz).trans y1; have v0 := (at_new hb1 0).1; have v1 := (at_new hb1 1).1; simp at v0 v1; have HR2 := Aside0.mk (((HR.out.below ((Below.refl _ _).alloc (Nat.le_refl _) _)).below (hb1.mono (by omega)) |>.mono (show w1.heap.size ≤ w2.heap.size by omega))); clear hb2 hb1))
  refine bodyPost_ret (v := .tuple #[.agg #[.pointer (some ⟨bs 0, 0, none⟩), .int .i64 l0.length], .bool true]) (by simp [results, Try.results49, go_sem, q0, q1, hz, hz1, hz2]) rfl ⟨bs, rfl, ?_, fun j hj => by have := HLO.out j hj; omega, ?_⟩
  · exact ((HR2.out.setCell (p := ⟨w.heap.size, 0, none⟩) (fun j hj => by have := HLO.out j hj; dsimp only; omega) _).setCell (p := ⟨w.heap.size, 1, none⟩) (fun j hj => by have := HLO.out j hj; dsimp only; omega) _).mono (by simp)
  · exact (HB2.out.setCell (p := ⟨w.heap.size, 0, none⟩) (Nat.le_refl _) _).setCell (p := ⟨w.heap.size, 1, none⟩) (Nat.le_refl _) _

end Go.Proofs.Ytgdhgncdpmalcaa.Ring
namespace Go.Proofs.Ytgdhgncdpmalcaa.Ring
open Go.RowKit Go.Shelf Go.Proofs.Ytgdhgncdpmalcaa.Q Go.Proofs.Ytgdhgncdpmalcaa.Drawn Go.Proofs.YtgdhgncdpmalcaaW.PrintWords Go.Proofs.YtgdhgncdpmalcaaW.PrintLast Go.Proofs.YtgdhgncdpmalcaaW.PrintMore
set_option linter.unusedVariables false
set_option linter.unusedSimpArgs false
attribute [local go_sem] Oper.semAt_some
theorem simple_isnt (A0 : Option Addr) (c0 : Nat) (l0 : List Pt) (w : World) (hr0 : Kd.C k32 w A0 l0.length l0) (hc0 : l0.length ≤ c0) (h : okS l0 = false) :
    Calls Try.prog 49 #[.slice A0 l0.length c0] w (NoRing w) := by
  cases hc : Pure.cvB l0
  · exact simple_isnt_a A0 c0 l0 w hr0 hc0 hc
  · exact simple_isnt_b A0 c0 l0 w hr0 hc0 hc (by unfold okS at h; rw [hc, Bool.true_and] at h; exact h)
theorem simple_yes (A0 : Option Addr) (c0 : Nat) (l0 : List Pt) (w : World) (hr0 : Kd.C k32 w A0 l0.length l0) (hc0 : l0.length ≤ c0) (h : okS l0 = true) :
    Calls Try.prog 49 #[.slice A0 l0.length c0] w (IsRing w l0) := by
  unfold okS at h
  rw [Bool.and_eq_true] at h
  exact simple_is A0 c0 l0 w hr0 hc0 h.1 h.2
set_option maxRecDepth 100000 in
set_option maxHeartbeats 4000000 in
theorem polyValid_no (A0 : Option Addr) (c0 : Nat) (l0 : List Pt) (w : World) (hr0 : Kd.C k32 w A0 l0.length l0) (hc0 : l0.length ≤ c0) (h : okS l0 = false) :
    Calls Try.prog 18 #[.slice A0 l0.length c0] w fun e w' => e = .returned (.bool false) ∧ Below w.heap.size w w' := by
  have HR0 := Aside0.mk hr0
  have HC0 := Aside0.mk hc0
  have HX := Aside0.mk h
  clear hr0 hc0 h
  go_enter Try.func18, Try.ntmps18
  go_wp2_with (go_at_call 49; refine (simple_isnt A0 c0 l0 _ ?s1 HC0.out HX.out).mono ?_; (case s1 => exact qq57); rintro e w1 ⟨rfl, hb⟩; have HB := Aside0.mk ((Below.refl w.heap.size w).trans hb); clear hb)
  go_ret
  exact ⟨rfl, HB.out.alloc HB.out.size _⟩

set_option maxRecDepth 100000 in
set_option maxHeartbeats 4000000 in
theorem polyValid_yes (A0 : Option Addr) (c0 : Nat) (l0 : List Pt) (w : World) (hr0 : Kd.C k32 w A0 l0.length l0) (hc0 : l0.length ≤ c0) (h : okS l0 = true) :
    Calls Try.prog 18 #[.slice A0 l0.length c0] w fun e w' => e = .returned (.bool true) ∧ Below w.heap.size w w' := by
  have HR0 := Aside0.mk hr0
  have HC0 := Aside0.mk hc0
  have HX := Aside0.mk h
  clear hr0 hc0 h
  go_enter Try.func18, Try.ntmps18
  go_wp2_with (go_at_call 49; refine (simple_yes A0 c0 l0 _ ?s1 HC0.out HX.out).mono ?_; (case s1 => exact qq57); rintro e w1 ⟨bs, rfl, hR, hlo0, hb⟩; have HR := Aside0.mk hR; have HB := Aside0.mk ((Below.refl w.heap.size w).trans hb); clear hb hR hlo0)
  go_ret
  exact ⟨rfl, HB.out.alloc HB.out.size _⟩

end Go.Proofs.Ytgdhgncdpmalcaa.Ring
namespace Go.Proofs.Ytgdhgncdpmalcaa.Q
open Go.RowKit Go.Proofs.YtgdhgncdpmalcaaW.PrintWords Go.Proofs.YtgdhgncdpmalcaaW.PrintLast Go.Proofs.YtgdhgncdpmalcaaW.PrintMore
attribute [local go_sem] max2_int min2_int max_two min_two max_three min_three max_four min_four
set_option linter.unusedVariables false
set_option linter.unusedSimpArgs false

/-! ### impl_PolyValid: function 18 -/
def impl_PolyValid.f (l0 : List (S32)) : Option (Bool) := if Go.Proofs.Ytgdhgncdpmalcaa.Ring.okS l0 then some true else some false
theorem impl_PolyValid.calls (A0 : Option Addr) (c0 : Nat) (l0 : List (S32)) (r : Bool) (w : World) (hr0 : Kd.C k32 w A0 l0.length l0) (hc0 : l0.length ≤ c0) (h : impl_PolyValid.f l0 = some r) :
    Calls Try.prog 18 #[.slice A0 l0.length c0] w fun e w' => e = .returned (.bool r) ∧ Below w.heap.size w w' := by
  unfold impl_PolyValid.f at h
  by_cases c : Go.Proofs.Ytgdhgncdpmalcaa.Ring.okS l0 = true
  · rw [if_pos c] at h
    obtain rfl := Option.some.inj h
    exact Go.Proofs.Ytgdhgncdpmalcaa.Ring.polyValid_yes A0 c0 l0 w hr0 hc0 c
  · rw [if_neg c] at h
    obtain rfl := Option.some.inj h
    exact Go.Proofs.Ytgdhgncdpmalcaa.Ring.polyValid_no A0 c0 l0 w hr0 hc0 (Bool.eq_false_iff.2 c)

end Go.Proofs.Ytgdhgncdpmalcaa.Q
namespace Go.Proofs.Ytgdhgncdpmalcaa.Q
open Go.RowKit Go.Proofs.YtgdhgncdpmalcaaW.PrintWords Go.Proofs.YtgdhgncdpmalcaaW.PrintLast Go.Proofs.YtgdhgncdpmalcaaW.PrintMore
attribute [local go_sem] max2_int min2_int max_two min_two max_three min_three max_four min_four
set_option linter.unusedVariables false
set_option linter.unusedSimpArgs false

/-! ### spec_l31Side: function 64 -/
def spec_l31Side.f (a0_0 : Int) (a0_1 : Int) (a1_0 : Int) (a1_1 : Int) (a2_0 : Int) (a2_1 : Int) : Option (Int) := (spec_l2Step.f a0_0 a0_1 a1_0 a1_1).bind fun bt313 => ((spec_l2Step.f a0_0 a0_1 a2_0 a2_1).bind fun bt315 => ((spec_l2Cross.f bt313.1 bt313.2 bt315.1 bt315.2).bind fun t317 => ((spec_l1Sign.f t317).bind fun t318 => (some t318))))
def spec_l31Side.T1 : Bool × List (List Nat × List Nat) := (true, [([], []), ([], []), ([0, 1], [0, 1]), ([], []), ([], []), ([3, 4, 2], [3, 4]), ([2, 5, 5], [2, 5]), ([6, 6], [6]), ([7, 7, 0, 1, 2, 3, 4, 5, 6, 7], [7])])
def spec_l31Side.B1 : List Nat := [0, 0, 3, 0, 0, 31, 63, 127, 255]
theorem spec_l31Side.tab1 : rtab .any (opsOf Try.f64 1) = spec_l31Side.T1 := by kernel_rfl
theorem spec_l31Side.bits1 : waitsOk spec_l31Side.T1.2 spec_l31Side.B1 = true := by kernel_rfl
set_option maxHeartbeats 8000000 in
set_option maxRecDepth 100000 in
theorem spec_l31Side.calls (a0_0 : Int) (a0_1 : Int) (a1_0 : Int) (a1_1 : Int) (a2_0 : Int) (a2_1 : Int) (r : Int) (w : World) (h : spec_l31Side.f a0_0 a0_1 a1_0 a1_1 a2_0 a2_1 = some r) :
    Calls Try.prog 64 #[.agg #[.int .i64 a0_0, .int .i64 a0_1], .agg #[.int .i64 a1_0, .int .i64 a1_1], .agg #[.int .i64 a2_0, .int .i64 a2_1]] w fun e w' => e = .returned (.int .i64 r) ∧ Below w.heap.size w w' := by
  have hu32 := Try.underlying32
  have HB := Aside0.mk (Below.refl w.heap.size w)
  have H : ((spec_l2Step.f a0_0 a0_1 a1_0 a1_1).bind fun bt313 => ((spec_l2Step.f a0_0 a0_1 a2_0 a2_1).bind fun bt315 => ((spec_l2Cross.f bt313.1 bt313.2 bt315.1 bt315.2).bind fun t317 => ((spec_l1Sign.f t317).bind fun t318 => (some t318))))) = some r := h
  clear h
  replace H := Option.bind_eq_some_iff.mp H
  obtain ⟨⟨t313, t314⟩, A40, H⟩ := H
  replace H : ((spec_l2Step.f a0_0 a0_1 a2_0 a2_1).bind fun bt315 => ((spec_l2Cross.f t313 t314 bt315.1 bt315.2).bind fun t317 => ((spec_l1Sign.f t317).bind fun t318 => (some t318)))) = some r := H
  have A4 := Aside0.mk A40
  clear A40
  replace H := Option.bind_eq_some_iff.mp H
  obtain ⟨⟨t315, t316⟩, A50, H⟩ := H
  replace H : ((spec_l2Cross.f t313 t314 t315 t316).bind fun t317 => ((spec_l1Sign.f t317).bind fun t318 => (some t318))) = some r := H
  have A5 := Aside0.mk A50
  clear A50
  replace H := Option.bind_eq_some_iff.mp H
  obtain ⟨t317, A60, H⟩ := H
  replace H : ((spec_l1Sign.f t317).bind fun t318 => (some t318)) = some r := H
  have A6 := Aside0.mk A60
  clear A60
  replace H := Option.bind_eq_some_iff.mp H
  obtain ⟨t318, A70, H⟩ := H
  replace H : (some t318) = some r := H
  have A7 := Aside0.mk A70
  clear A70
  obtain rfl := Option.some.inj H
  go_enter Try.func64, Try.ntmps64
  try go_wp2_with (first | ((with_reducible refine gate_dst (N := 3) rfl ?_); refine box_event ?hg (N := 3) ?hd (cs := #[.int .i64 a0_0, .int .i64 a0_1]) (t := 32) ?hr ?_; (case hd => rfl); (case hg => rfl); (case hr => exact qq21); intro gb310 hg w8 hbox hb; have n0_ := Aside0.mk (below_step qq1 hb); have n1_ := Aside0.mk (hbox); have n2_ := Aside0.mk ((qq31 : w.heap.size ≤ gb310)); have n3_ := Aside0.mk ((qq31 : w.heap.size ≤ gb310)); clear HB; have HB := n0_; have BK310 := n1_; have GW310 := n2_; have GE310 := n3_; clear n0_ n1_ n2_ n3_; clear hb hbox hg) | ((with_reducible refine gate_dst (N := 4) rfl ?_); refine box_event ?hg (N := 4) ?hd (cs := #[.int .i64 a1_0, .int .i64 a1_1]) (t := 32) ?hr ?_; (case hd => rfl); (case hg => rfl); (case hr => exact qq21); intro gb311 hg w9 hbox hb; have n0_ := Aside0.mk (bbl_ BK310.out hb); have n1_ := Aside0.mk (below_step (qq8 HB.out GE310.out) hb); have n2_ := Aside0.mk (hbox); have n3_ := Aside0.mk ((qq34 HB.out GE310.out : w.heap.size ≤ gb311)); have n4_ := Aside0.mk ((qq34 HB.out GE310.out : w.heap.size ≤ gb311)); have n5_ := Aside0.mk ((qq26 BK310.out : gb310 ≠ gb311)); have n6_ := Aside0.mk ((qq27 BK310.out : gb311 ≠ gb310)); clear BK310; clear HB; have BK310 := n0_; have HB := n1_; have BK311 := n2_; have GW311 := n3_; have GE311 := n4_; have NB310_311 := n5_; have NB311_310 := n6_; clear n0_ n1_ n2_ n3_ n4_ n5_ n6_; clear hb hbox hg) | ((with_reducible refine gate_dst (N := 5) rfl ?_); refine box_event ?hg (N := 5) ?hd (cs := #[.int .i64 a2_0, .int .i64 a2_1]) (t := 32) ?hr ?_; (case hd => rfl); (case hg => rfl); (case hr => exact qq21); intro gb312 hg w10 hbox hb; have n0_ := Aside0.mk (bbl_ BK310.out hb); have n1_ := Aside0.mk (bbl_ BK311.out hb); have n2_ := Aside0.mk (below_step (qq10 HB.out GE310.out GE311.out) hb); have n3_ := Aside0.mk (hbox); have n4_ := Aside0.mk ((qq47 HB.out GE310.out GE311.out : w.heap.size ≤ gb312)); have n5_ := Aside0.mk ((qq47 HB.out GE310.out GE311.out : w.heap.size ≤ gb312)); have n6_ := Aside0.mk ((qq26 BK310.out : gb310 ≠ gb312)); have n7_ := Aside0.mk ((qq27 BK310.out : gb312 ≠ gb310)); have n8_ := Aside0.mk ((qq26 BK311.out : gb311 ≠ gb312)); have n9_ := Aside0.mk ((qq27 BK311.out : gb312 ≠ gb311)); clear BK310; clear BK311; clear HB; have BK310 := n0_; have BK311 := n1_; have HB := n2_; have BK312 := n3_; have GW312 := n4_; have GE312 := n5_; have NB310_312 := n6_; have NB312_310 := n7_; have NB311_312 := n8_; have NB312_311 := n9_; clear n0_ n1_ n2_ n3_ n4_ n5_ n6_ n7_ n8_ n9_; clear hb hbox hg))
  have n0_ := Aside0.mk (blk_drew BK310.out)
  have n1_ := Aside0.mk (blk_drew BK311.out)
  have n2_ := Aside0.mk (blk_drew BK312.out)
  have n3_ := Aside0.mk (below_drew1 HB.out)
  clear BK310
  clear BK311
  clear BK312
  clear HB
  have BK310 := n0_
  have BK311 := n1_
  have BK312 := n2_
  have HB := n3_
  clear n0_ n1_ n2_ n3_
  refine start_ (n := 9) (S := fun w' => w'.cell? ⟨gb310, 0, none⟩ = some (.int .i64 a0_0) ∧ w'.cell? ⟨gb310, 1, none⟩ = some (.int .i64 a0_1) ∧ w'.cell? ⟨gb311, 0, none⟩ = some (.int .i64 a1_0) ∧ w'.cell? ⟨gb311, 1, none⟩ = some (.int .i64 a1_1) ∧ w'.cell? ⟨gb312, 0, none⟩ = some (.int .i64 a2_0) ∧ w'.cell? ⟨gb312, 1, none⟩ = some (.int .i64 a2_1)) (ds := []) #[false, false, false, false, false, false, false, false, false] (by kernel_rfl) rfl rfl ⟨(blk_cell BK310.out 0).trans rfl, (blk_cell BK310.out 1).trans rfl, (blk_cell BK311.out 0).trans rfl, (blk_cell BK311.out 1).trans rfl, (blk_cell BK312.out 0).trans rfl, (blk_cell BK312.out 1).trans rfl⟩ (fun hHeld => ?_); refine with_tabW spec_l31Side.tab1 spec_l31Side.bits1 (fun HT_ HW_ => ?_)
  generalize w10.drew = w11 at BK310 BK311 BK312 HB hHeld ⊢
  refine take_ (i := 0) (N := some 7) (v := ?_) (a' := ?_) #[true, false, false, false, false, false, false, false, false] rfl rfl (take_ofW HT_.out HW_.out (by kernel_rfl)) (fun _ _ _ h => h) (Or.inl ⟨by rfl, ?_⟩) hHeld ?_ ?_
  rotate_left
  · rintro w' ⟨s0, s1, s2, s3, s4, s5⟩
    go_simp
    with_reducible rfl
  rotate_left
  · simp only [Act.put, List.setIfInBounds_toArray, List.set_cons_zero, List.set_cons_succ, i64_w, i32_w]
    rfl
  refine take_ (i := 1) (N := some 8) (v := ?_) (a' := ?_) #[true, true, false, false, false, false, false, false, false] rfl rfl (take_ofW HT_.out HW_.out (by kernel_rfl)) (fun _ _ _ h => h) (Or.inl ⟨by rfl, ?_⟩) hHeld ?_ ?_
  rotate_left
  · rintro w' ⟨s0, s1, s2, s3, s4, s5⟩
    go_simp
    with_reducible rfl
  rotate_left
  · simp only [Act.put, List.setIfInBounds_toArray, List.set_cons_zero, List.set_cons_succ, i64_w, i32_w]
    rfl
  refine take_ (i := 3) (N := some 10) (v := ?_) (a' := ?_) #[true, true, false, true, false, false, false, false, false] rfl rfl (take_ofW HT_.out HW_.out (by kernel_rfl)) (fun _ _ _ h => h) (Or.inl ⟨by rfl, ?_⟩) hHeld ?_ ?_
  rotate_left
  · rintro w' ⟨s0, s1, s2, s3, s4, s5⟩
    go_simp
    with_reducible rfl
  rotate_left
  · simp only [Act.put, List.setIfInBounds_toArray, List.set_cons_zero, List.set_cons_succ, i64_w, i32_w]
    rfl
  refine take_ (i := 4) (N := some 11) (v := ?_) (a' := ?_) #[true, true, false, true, true, false, false, false, false] rfl rfl (take_ofW HT_.out HW_.out (by kernel_rfl)) (fun _ _ _ h => h) (Or.inl ⟨by rfl, ?_⟩) hHeld ?_ ?_
  rotate_left
  · rintro w' ⟨s0, s1, s2, s3, s4, s5⟩
    go_simp
    with_reducible rfl
  rotate_left
  · simp only [Act.put, List.setIfInBounds_toArray, List.set_cons_zero, List.set_cons_succ, i64_w, i32_w]
    rfl
  refine one_ (i := 2) (N := some 9) #[true, true, true, true, true, false, false, false, false] rfl rfl (one_of HT_.out (by kernel_rfl)) (by decide) (fun K hK => ?_)
  refine goes_ Try.func77 (by kernel_rfl) rfl #[.agg #[.int .i64 a0_0, .int .i64 a0_1], .agg #[.int .i64 a1_0, .int .i64 a1_1]] (by rfl) rfl rfl qq2 ?_
  with_reducible refine (spec_l2Step.calls a0_0 a0_1 a1_0 a1_1 t313 t314 _ A4.out).mono ?_
  rintro e w12 ⟨rfl, hb⟩
  refine ⟨_, rfl, ?_⟩
  have n0_ := Aside0.mk (bbl_ BK310.out hb)
  have n1_ := Aside0.mk (bbl_ BK311.out hb)
  have n2_ := Aside0.mk (bbl_ BK312.out hb)
  have n3_ := Aside0.mk (below_step (qq7 HB.out GE310.out GE311.out GE312.out) hb)
  clear BK310
  clear BK311
  clear BK312
  clear HB
  have BK310 := n0_
  have BK311 := n1_
  have BK312 := n2_
  have HB := n3_
  clear n0_ n1_ n2_ n3_
  (try clear hb)
  (try clear hb2)
  (try clear hk)
  (try clear hi)
  refine hK.out _ _ ⟨(blk_cell BK310.out 0).trans rfl, (blk_cell BK310.out 1).trans rfl, (blk_cell BK311.out 0).trans rfl, (blk_cell BK311.out 1).trans rfl, (blk_cell BK312.out 0).trans rfl, (blk_cell BK312.out 1).trans rfl⟩ (fun hHeld => ?_)
  clear hK K
  refine norm_ (a' := ?_) ?_ ?_
  rotate_left
  · show Act.put _ (some 9) _ = _
    simp only [Act.put, List.setIfInBounds_toArray, List.set_cons_zero, List.set_cons_succ, i64_w, i32_w]
    rfl
  refine one_ (i := 5) (N := some 12) #[true, true, true, true, true, true, false, false, false] rfl rfl (one_of HT_.out (by kernel_rfl)) (by decide) (fun K hK => ?_)
  refine goes_ Try.func77 (by kernel_rfl) rfl #[.agg #[.int .i64 a0_0, .int .i64 a0_1], .agg #[.int .i64 a2_0, .int .i64 a2_1]] (by rfl) rfl rfl qq2 ?_
  with_reducible refine (spec_l2Step.calls a0_0 a0_1 a2_0 a2_1 t315 t316 _ A5.out).mono ?_
  rintro e w13 ⟨rfl, hb⟩
  refine ⟨_, rfl, ?_⟩
  have n0_ := Aside0.mk (bbl_ BK310.out hb)
  have n1_ := Aside0.mk (bbl_ BK311.out hb)
  have n2_ := Aside0.mk (bbl_ BK312.out hb)
  have n3_ := Aside0.mk (below_step (qq7 HB.out GE310.out GE311.out GE312.out) hb)
  clear BK310
  clear BK311
  clear BK312
  clear HB
  have BK310 := n0_
  have BK311 := n1_
  have BK312 := n2_
  have HB := n3_
  clear n0_ n1_ n2_ n3_
  (try clear hb)
  (try clear hb2)
  (try clear hk)
  (try clear hi)
  refine hK.out _ _ ⟨(blk_cell BK310.out 0).trans rfl, (blk_cell BK310.out 1).trans rfl, (blk_cell BK311.out 0).trans rfl, (blk_cell BK311.out 1).trans rfl, (blk_cell BK312.out 0).trans rfl, (blk_cell BK312.out 1).trans rfl⟩ (fun hHeld => ?_)
  clear hK K
  refine norm_ (a' := ?_) ?_ ?_
  rotate_left
  · show Act.put _ (some 12) _ = _
    simp only [Act.put, List.setIfInBounds_toArray, List.set_cons_zero, List.set_cons_succ, i64_w, i32_w]
    rfl
  refine one_ (i := 6) (N := some 13) #[true, true, true, true, true, true, true, false, false] rfl rfl (one_of HT_.out (by kernel_rfl)) (by decide) (fun K hK => ?_)
  refine goes_ Try.func75 (by kernel_rfl) rfl #[.agg #[.int .i64 t313, .int .i64 t314], .agg #[.int .i64 t315, .int .i64 t316]] (by rfl) rfl rfl qq2 ?_
  with_reducible refine (spec_l2Cross.calls t313 t314 t315 t316 t317 _ A6.out).mono ?_
  rintro e w14 ⟨rfl, hb⟩
  refine ⟨_, rfl, ?_⟩
  have n0_ := Aside0.mk (bbl_ BK310.out hb)
  have n1_ := Aside0.mk (bbl_ BK311.out hb)
  have n2_ := Aside0.mk (bbl_ BK312.out hb)
  have n3_ := Aside0.mk (below_step (qq7 HB.out GE310.out GE311.out GE312.out) hb)
  clear BK310
  clear BK311
  clear BK312
  clear HB
  have BK310 := n0_
  have BK311 := n1_
  have BK312 := n2_
  have HB := n3_
  clear n0_ n1_ n2_ n3_
  (try clear hb)
  (try clear hb2)
  (try clear hk)
  (try clear hi)
  refine hK.out _ _ ⟨(blk_cell BK310.out 0).trans rfl, (blk_cell BK310.out 1).trans rfl, (blk_cell BK311.out 0).trans rfl, (blk_cell BK311.out 1).trans rfl, (blk_cell BK312.out 0).trans rfl, (blk_cell BK312.out 1).trans rfl⟩ (fun hHeld => ?_)
  clear hK K
  refine norm_ (a' := ?_) ?_ ?_
  rotate_left
  · show Act.put _ (some 13) _ = _
    simp only [Act.put, List.setIfInBounds_toArray, List.set_cons_zero, List.set_cons_succ, i64_w, i32_w]
    rfl
  refine one_ (i := 7) (N := some 14) #[true, true, true, true, true, true, true, true, false] rfl rfl (one_of HT_.out (by kernel_rfl)) (by decide) (fun K hK => ?_)
  refine goes_ Try.func63 (by kernel_rfl) rfl #[.int .i64 t317] (by rfl) rfl rfl qq2 ?_
  with_reducible refine (spec_l1Sign.calls t317 t318 _ A7.out).mono ?_
  rintro e w15 ⟨rfl, hb⟩
  refine ⟨_, rfl, ?_⟩
  have n0_ := Aside0.mk (bbl_ BK310.out hb)
  have n1_ := Aside0.mk (bbl_ BK311.out hb)
  have n2_ := Aside0.mk (bbl_ BK312.out hb)
  have n3_ := Aside0.mk (below_step (qq7 HB.out GE310.out GE311.out GE312.out) hb)
  clear BK310
  clear BK311
  clear BK312
  clear HB
  have BK310 := n0_
  have BK311 := n1_
  have BK312 := n2_
  have HB := n3_
  clear n0_ n1_ n2_ n3_
  (try clear hb)
  (try clear hb2)
  (try clear hk)
  (try clear hi)
  refine hK.out _ _ ⟨(blk_cell BK310.out 0).trans rfl, (blk_cell BK310.out 1).trans rfl, (blk_cell BK311.out 0).trans rfl, (blk_cell BK311.out 1).trans rfl, (blk_cell BK312.out 0).trans rfl, (blk_cell BK312.out 1).trans rfl⟩ (fun hHeld => ?_)
  clear hK K
  refine norm_ (a' := ?_) ?_ ?_
  rotate_left
  · show Act.put _ (some 14) _ = _
    simp only [Act.put, List.setIfInBounds_toArray, List.set_cons_zero, List.set_cons_succ, i64_w, i32_w]
    rfl
  refine pure_ (i := 8) (N := some 6) #[true, true, true, true, true, true, true, true, true] rfl rfl (any_of HT_.out (by kernel_rfl)) (fun _ _ _ h => h) (Or.inl ⟨by rfl, pA_⟩) pB_ ?_
  refine done_ (done_of HT_.out (by kernel_rfl)) ?_
  try go_wp2
  go_ret
  exact ⟨qq11, qq7 HB.out GE310.out GE311.out GE312.out⟩

end Go.Proofs.Ytgdhgncdpmalcaa.Q
namespace Go.Proofs.Ytgdhgncdpmalcaa.Q
open Go.RowKit Go.Proofs.YtgdhgncdpmalcaaW.PrintWords Go.Proofs.YtgdhgncdpmalcaaW.PrintLast Go.Proofs.YtgdhgncdpmalcaaW.PrintMore
attribute [local go_sem] max2_int min2_int max_two min_two max_three min_three max_four min_four
set_option linter.unusedVariables false
set_option linter.unusedSimpArgs false

/-! ### spec_l31Meet: function 51 -/
def spec_l31Meet.j0 : Nat → Bool → Int → Int → Int → Int → Int → Int → Int → Int → Option (Bool)
  | 0, _, _, _, _, _, _, _, _, _ => none
  | k + 1, x30, x379000, x379001, x380000, x380001, x381000, x381001, x382000, x382001 => if x30 = true then (some true) else ((spec_l31Side.f x379000 x379001 x380000 x380001 x381000 x381001).bind fun t386 => ((spec_l31Side.f x379000 x379001 x380000 x380001 x382000 x382001).bind fun t387 => (if (wrap64 (t386 * t387)) < 0 then ((spec_l31Side.f x381000 x381001 x382000 x382001 x379000 x379001).bind fun t388 => ((spec_l31Side.f x381000 x381001 x382000 x382001 x380000 x380001).bind fun t389 => (some (decide ((wrap64 (t388 * t389)) < 0))))) else (some false))))
def spec_l31Meet.f (k : Nat) (a0_0 : Int) (a0_1 : Int) (a1_0 : Int) (a1_1 : Int) (a2_0 : Int) (a2_1 : Int) (a3_0 : Int) (a3_1 : Int) : Option (Bool) := (spec_l2On.f a0_0 a0_1 a1_0 a1_1 a2_0 a2_1).bind fun t382 => (if t382 = true then (spec_l31Meet.j0 k true a0_0 a0_1 a1_0 a1_1 a2_0 a2_1 a3_0 a3_1) else ((spec_l2On.f a0_0 a0_1 a1_0 a1_1 a3_0 a3_1).bind fun t383 => (if t383 = true then (spec_l31Meet.j0 k true a0_0 a0_1 a1_0 a1_1 a2_0 a2_1 a3_0 a3_1) else ((spec_l2On.f a2_0 a2_1 a3_0 a3_1 a0_0 a0_1).bind fun t384 => (if t384 = true then (spec_l31Meet.j0 k true a0_0 a0_1 a1_0 a1_1 a2_0 a2_1 a3_0 a3_1) else ((spec_l2On.f a2_0 a2_1 a3_0 a3_1 a1_0 a1_1).bind fun t385 => (spec_l31Meet.j0 k t385 a0_0 a0_1 a1_0 a1_1 a2_0 a2_1 a3_0 a3_1)))))))
open Go.Proofs.Ytgdhgncdpmalcaa.Drawn in
set_option maxHeartbeats 8000000 in
set_option maxRecDepth 100000 in
theorem spec_l31Meet.calls (k : Nat) (a0_0 : Int) (a0_1 : Int) (a1_0 : Int) (a1_1 : Int) (a2_0 : Int) (a2_1 : Int) (a3_0 : Int) (a3_1 : Int) (r : Bool) (w : World) (h : spec_l31Meet.f k a0_0 a0_1 a1_0 a1_1 a2_0 a2_1 a3_0 a3_1 = some r) :
    Calls Try.prog 51 #[.agg #[.int .i64 a0_0, .int .i64 a0_1], .agg #[.int .i64 a1_0, .int .i64 a1_1], .agg #[.int .i64 a2_0, .int .i64 a2_1], .agg #[.int .i64 a3_0, .int .i64 a3_1]] w fun e w' => e = .returned (.bool r) ∧ Below w.heap.size w w' := by
  have HX := Aside0.mk (Bx.start w 32 a0_0 a0_1 a1_0 a1_1 a2_0 a2_1 a3_0 a3_1)
  unfold spec_l31Meet.f at h
  obtain ⟨b1, F1, h⟩ := Option.bind_eq_some_iff.1 h
  replace F1 := Aside0.mk F1
  have fin1 : ∀ {k : Nat}, spec_l31Meet.j0 k true a0_0 a0_1 a1_0 a1_1 a2_0 a2_1 a3_0 a3_1 = some r → r = true := by
    intro k h
    cases k with
    | zero => simp [spec_l31Meet.j0] at h
    | succ k => rw [spec_l31Meet.j0, if_pos rfl] at h; exact (Option.some.inj h).symm
  cases b1
  case true =>
    obtain rfl := fin1 (by simpa using h)
    (try clear h); clear fin1; go_enter Try.func51, Try.ntmps51; go_wp2_with (go_at_call 50; (first | (with_reducible refine (spec_l2On.calls _ _ _ _ _ _ _ _ F1.out).mono ?_) | (with_reducible refine (spec_l2On.calls _ _ _ _ _ _ _ _ F2.out).mono ?_) | (with_reducible refine (spec_l2On.calls _ _ _ _ _ _ _ _ F3.out).mono ?_) | (with_reducible refine (spec_l2On.calls _ _ _ _ _ _ _ _ F4.out).mono ?_)); rintro e wz ⟨rfl, hb⟩; have HX2 := Aside0.mk (HX.out.step hb); clear hb HX; have HX := HX2; clear HX2; have p0 := HX.out.p0; have p1 := HX.out.p1; have q0 := HX.out.q0; have q1 := HX.out.q1; have r0 := HX.out.r0; have r1 := HX.out.r1; have s0 := HX.out.s0; have s1 := HX.out.s1); go_ret; exact ⟨rfl, HX.out.be⟩
  case false =>
    rw [if_neg (by decide)] at h
    obtain ⟨b2, F2, h⟩ := Option.bind_eq_some_iff.1 h
    replace F2 := Aside0.mk F2
    cases b2
    case true =>
      obtain rfl := fin1 (by simpa using h)
      (try clear h); clear fin1; go_enter Try.func51, Try.ntmps51; go_wp2_with (go_at_call 50; (first | (with_reducible refine (spec_l2On.calls _ _ _ _ _ _ _ _ F1.out).mono ?_) | (with_reducible refine (spec_l2On.calls _ _ _ _ _ _ _ _ F2.out).mono ?_) | (with_reducible refine (spec_l2On.calls _ _ _ _ _ _ _ _ F3.out).mono ?_) | (with_reducible refine (spec_l2On.calls _ _ _ _ _ _ _ _ F4.out).mono ?_)); rintro e wz ⟨rfl, hb⟩; have HX2 := Aside0.mk (HX.out.step hb); clear hb HX; have HX := HX2; clear HX2; have p0 := HX.out.p0; have p1 := HX.out.p1; have q0 := HX.out.q0; have q1 := HX.out.q1; have r0 := HX.out.r0; have r1 := HX.out.r1; have s0 := HX.out.s0; have s1 := HX.out.s1); go_ret; exact ⟨rfl, HX.out.be⟩
    case false =>
      rw [if_neg (by decide)] at h
      obtain ⟨b3, F3, h⟩ := Option.bind_eq_some_iff.1 h
      replace F3 := Aside0.mk F3
      cases b3
      case true =>
        obtain rfl := fin1 (by simpa using h)
        (try clear h); clear fin1; go_enter Try.func51, Try.ntmps51; go_wp2_with (go_at_call 50; (first | (with_reducible refine (spec_l2On.calls _ _ _ _ _ _ _ _ F1.out).mono ?_) | (with_reducible refine (spec_l2On.calls _ _ _ _ _ _ _ _ F2.out).mono ?_) | (with_reducible refine (spec_l2On.calls _ _ _ _ _ _ _ _ F3.out).mono ?_) | (with_reducible refine (spec_l2On.calls _ _ _ _ _ _ _ _ F4.out).mono ?_)); rintro e wz ⟨rfl, hb⟩; have HX2 := Aside0.mk (HX.out.step hb); clear hb HX; have HX := HX2; clear HX2; have p0 := HX.out.p0; have p1 := HX.out.p1; have q0 := HX.out.q0; have q1 := HX.out.q1; have r0 := HX.out.r0; have r1 := HX.out.r1; have s0 := HX.out.s0; have s1 := HX.out.s1); go_ret; exact ⟨rfl, HX.out.be⟩
      case false =>
        rw [if_neg (by decide)] at h
        obtain ⟨b4, F4, h⟩ := Option.bind_eq_some_iff.1 h
        replace F4 := Aside0.mk F4
        cases b4
        case true =>
          obtain rfl := fin1 h
          (try clear h); clear fin1; go_enter Try.func51, Try.ntmps51; go_wp2_with (go_at_call 50; (first | (with_reducible refine (spec_l2On.calls _ _ _ _ _ _ _ _ F1.out).mono ?_) | (with_reducible refine (spec_l2On.calls _ _ _ _ _ _ _ _ F2.out).mono ?_) | (with_reducible refine (spec_l2On.calls _ _ _ _ _ _ _ _ F3.out).mono ?_) | (with_reducible refine (spec_l2On.calls _ _ _ _ _ _ _ _ F4.out).mono ?_)); rintro e wz ⟨rfl, hb⟩; have HX2 := Aside0.mk (HX.out.step hb); clear hb HX; have HX := HX2; clear HX2; have p0 := HX.out.p0; have p1 := HX.out.p1; have q0 := HX.out.q0; have q1 := HX.out.q1; have r0 := HX.out.r0; have r1 := HX.out.r1; have s0 := HX.out.s0; have s1 := HX.out.s1); go_ret; exact ⟨rfl, HX.out.be⟩
        case false =>
          clear fin1
          cases k with
          | zero => simp [spec_l31Meet.j0] at h
          | succ k =>
            rw [spec_l31Meet.j0, if_neg (by decide)] at h
            obtain ⟨t1, G1, h⟩ := Option.bind_eq_some_iff.1 h
            obtain ⟨t2, G2, h⟩ := Option.bind_eq_some_iff.1 h
            replace G1 := Aside0.mk G1
            replace G2 := Aside0.mk G2
            by_cases c : wrap64 (t1 * t2) < 0
            · rw [if_pos c] at h
              obtain ⟨t3, G3, h⟩ := Option.bind_eq_some_iff.1 h
              obtain ⟨t4, G4, h⟩ := Option.bind_eq_some_iff.1 h
              replace G3 := Aside0.mk G3
              replace G4 := Aside0.mk G4
              obtain rfl := Option.some.inj h
              have cb := decide_eq_true c
              clear h c
              go_enter Try.func51, Try.ntmps51
              go_wp2_with (go_at_call 50; (first | (with_reducible refine (spec_l2On.calls _ _ _ _ _ _ _ _ F1.out).mono ?_) | (with_reducible refine (spec_l2On.calls _ _ _ _ _ _ _ _ F2.out).mono ?_) | (with_reducible refine (spec_l2On.calls _ _ _ _ _ _ _ _ F3.out).mono ?_) | (with_reducible refine (spec_l2On.calls _ _ _ _ _ _ _ _ F4.out).mono ?_)); rintro e wz ⟨rfl, hb⟩; have HX2 := Aside0.mk (HX.out.step hb); clear hb HX; have HX := HX2; clear HX2; have p0 := HX.out.p0; have p1 := HX.out.p1; have q0 := HX.out.q0; have q1 := HX.out.q1; have r0 := HX.out.r0; have r1 := HX.out.r1; have s0 := HX.out.s0; have s1 := HX.out.s1)
              refine wpIn_wide (n := 0) |>.1 ?_
              have HF := wide_plain Try.prog
              obtain ⟨VS, hVS⟩ : ∃ VS : List (Option Tmp × Value), [(some 31, .agg #[.int .i64 a0_0, .int .i64 a0_1]), (some 32, .agg #[.int .i64 a1_0, .int .i64 a1_1]), (some 33, .agg #[.int .i64 a2_0, .int .i64 a2_1]), (some 34, .int .i64 t1), (some 35, .agg #[.int .i64 a0_0, .int .i64 a0_1]), (some 36, .agg #[.int .i64 a1_0, .int .i64 a1_1]), (some 37, .agg #[.int .i64 a3_0, .int .i64 a3_1]), (some 38, .int .i64 t2), (some 39, .int .i64 (wrap64 (t1 * t2))), (some 40, .bool true), (some 41, .bool true), (some 42, .agg #[.int .i64 a2_0, .int .i64 a2_1]), (some 43, .agg #[.int .i64 a3_0, .int .i64 a3_1]), (some 44, .agg #[.int .i64 a0_0, .int .i64 a0_1]), (some 45, .int .i64 t3), (some 46, .agg #[.int .i64 a2_0, .int .i64 a2_1]), (some 47, .agg #[.int .i64 a3_0, .int .i64 a3_1]), (some 48, .agg #[.int .i64 a1_0, .int .i64 a1_1]), (some 49, .int .i64 t4), (some 50, .int .i64 (wrap64 (t3 * t4))), (some 51, .bool (decide (wrap64 (t3 * t4) < 0))), (some 52, .bool (decide (wrap64 (t3 * t4) < 0))), (some 8, .bool (decide (wrap64 (t3 * t4) < 0)))] = VS := ⟨_, rfl⟩
              have HN : (VS.filterMap (·.1)).Nodup := by rw [← hVS]; exact (show List.Nodup [(31 : Tmp), (32 : Tmp), (33 : Tmp), (34 : Tmp), (35 : Tmp), (36 : Tmp), (37 : Tmp), (38 : Tmp), (39 : Tmp), (40 : Tmp), (41 : Tmp), (42 : Tmp), (43 : Tmp), (44 : Tmp), (45 : Tmp), (46 : Tmp), (47 : Tmp), (48 : Tmp), (49 : Tmp), (50 : Tmp), (51 : Tmp), (52 : Tmp), (8 : Tmp)] by decide)
              refine act_name fun A0 hA0 => ?_
              have hT_ : 52 < A0.tmps.size := by rw [← hA0]; simp
              have E4 : ∀ L : List Bool, (fill VS L A0).tmps[4]?.getD undef = .pointer (some ⟨w.heap.size, 0, none⟩) := fun L => fill_old _ _ _ qq49 (by rw [← hA0]; rfl)
              have E5 : ∀ L : List Bool, (fill VS L A0).tmps[5]?.getD undef = .pointer (some ⟨w.heap.size + 1, 0, none⟩) := fun L => fill_old _ _ _ qq50 (by rw [← hA0]; rfl)
              have E6 : ∀ L : List Bool, (fill VS L A0).tmps[6]?.getD undef = .pointer (some ⟨w.heap.size + 2, 0, none⟩) := fun L => fill_old _ _ _ qq51 (by rw [← hA0]; rfl)
              have E7 : ∀ L : List Bool, (fill VS L A0).tmps[7]?.getD undef = .pointer (some ⟨w.heap.size + 3, 0, none⟩) := fun L => fill_old _ _ _ qq52 (by rw [← hA0]; rfl)
              refine drawn_same (by kernel_rfl) (early_spec (by kernel_rfl)) VS (by rw [← hVS]; rfl) HN (fun w' => Bx w w' a0_0 a0_1 a1_0 a1_1 a2_0 a2_1 a3_0 a3_1) (HX.out.step ((Below.refl _ _).drew)) ?_ ?_
              · intro i o v L w' ho hv hpre hS K hK
                have hii : i = 0 ∨ i = 1 ∨ i = 2 ∨ i = 3 ∨ i = 4 ∨ i = 5 ∨ i = 6 ∨ i = 7 ∨ i = 8 ∨ i = 9 ∨ i = 10 ∨ i = 11 ∨ i = 12 ∨ i = 13 ∨ i = 14 ∨ i = 15 ∨ i = 16 ∨ i = 17 ∨ i = 18 ∨ i = 19 ∨ i = 20 ∨ i = 21 ∨ i = 22 := by have hq := (Array.getElem?_eq_some_iff.1 ho).1; simp at hq; omega
                rcases hii with rfl | rfl | rfl | rfl | rfl | rfl | rfl | rfl | rfl | rfl | rfl | rfl | rfl | rfl | rfl | rfl | rfl | rfl | rfl | rfl | rfl | rfl | rfl
                · obtain rfl := Option.some.inj ho
                  obtain rfl := vs_at hVS hv rfl
                  have e4 := E4 L
                  have c1 := hS.p0
                  have c2 := hS.p1
                  refine st_val HF rfl (by simp) rfl (w' := w') ?_ (hK w' hS)
                  generalize fill VS L A0 = A at e4 ⊢
                  simp [execOp, go_sem, i64_w, e4, c1, c2]
                · obtain rfl := Option.some.inj ho
                  obtain rfl := vs_at hVS hv rfl
                  have e5 := E5 L
                  have c1 := hS.q0
                  have c2 := hS.q1
                  refine st_val HF rfl (by simp) rfl (w' := w') ?_ (hK w' hS)
                  generalize fill VS L A0 = A at e5 ⊢
                  simp [execOp, go_sem, i64_w, e5, c1, c2]
                · obtain rfl := Option.some.inj ho
                  obtain rfl := vs_at hVS hv rfl
                  have e6 := E6 L
                  have c1 := hS.r0
                  have c2 := hS.r1
                  refine st_val HF rfl (by simp) rfl (w' := w') ?_ (hK w' hS)
                  generalize fill VS L A0 = A at e6 ⊢
                  simp [execOp, go_sem, i64_w, e6, c1, c2]
                · obtain rfl := Option.some.inj ho
                  obtain rfl := vs_at hVS hv rfl
                  have e31 := fill_get HN hVS hT_ (t := 31) (j := 0) rfl rfl (hpre ⟨0, .data⟩ (by simp) rfl)
                  have e32 := fill_get HN hVS hT_ (t := 32) (j := 1) rfl rfl (hpre ⟨1, .data⟩ (by simp) rfl)
                  have e33 := fill_get HN hVS hT_ (t := 33) (j := 2) rfl rfl (hpre ⟨2, .data⟩ (by simp) rfl)
                  refine st_call HF rfl (by simp) rfl (w := w') (f := 64) (args := #[.agg #[.int .i64 a0_0, .int .i64 a0_1], .agg #[.int .i64 a1_0, .int .i64 a1_1], .agg #[.int .i64 a2_0, .int .i64 a2_1]]) (v := .int .i64 t1) ?_ ?_
                  · generalize fill VS L A0 = A at e31 e32 e33 ⊢
                    simp [execOp, resolve, go_sem, e31, e32, e33]
                  · refine (spec_l31Side.calls _ _ _ _ _ _ _ w' G1.out).mono ?_; rintro e w2 ⟨rfl, hb2⟩; exact ⟨rfl, hK w2 (hS.step hb2)⟩
                · obtain rfl := Option.some.inj ho
                  obtain rfl := vs_at hVS hv rfl
                  have e4 := E4 L
                  have c1 := hS.p0
                  have c2 := hS.p1
                  refine st_val HF rfl (by simp) rfl (w' := w') ?_ (hK w' hS)
                  generalize fill VS L A0 = A at e4 ⊢
                  simp [execOp, go_sem, i64_w, e4, c1, c2]
                · obtain rfl := Option.some.inj ho
                  obtain rfl := vs_at hVS hv rfl
                  have e5 := E5 L
                  have c1 := hS.q0
                  have c2 := hS.q1
                  refine st_val HF rfl (by simp) rfl (w' := w') ?_ (hK w' hS)
                  generalize fill VS L A0 = A at e5 ⊢
                  simp [execOp, go_sem, i64_w, e5, c1, c2]
                · obtain rfl := Option.some.inj ho
                  obtain rfl := vs_at hVS hv rfl
                  have e7 := E7 L
                  have c1 := hS.s0
                  have c2 := hS.s1
                  refine st_val HF rfl (by simp) rfl (w' := w') ?_ (hK w' hS)
                  generalize fill VS L A0 = A at e7 ⊢
                  simp [execOp, go_sem, i64_w, e7, c1, c2]
                · obtain rfl := Option.some.inj ho
                  obtain rfl := vs_at hVS hv rfl
                  have e35 := fill_get HN hVS hT_ (t := 35) (j := 4) rfl rfl (hpre ⟨4, .data⟩ (by simp) rfl)
                  have e36 := fill_get HN hVS hT_ (t := 36) (j := 5) rfl rfl (hpre ⟨5, .data⟩ (by simp) rfl)
                  have e37 := fill_get HN hVS hT_ (t := 37) (j := 6) rfl rfl (hpre ⟨6, .data⟩ (by simp) rfl)
                  refine st_call HF rfl (by simp) rfl (w := w') (f := 64) (args := #[.agg #[.int .i64 a0_0, .int .i64 a0_1], .agg #[.int .i64 a1_0, .int .i64 a1_1], .agg #[.int .i64 a3_0, .int .i64 a3_1]]) (v := .int .i64 t2) ?_ ?_
                  · generalize fill VS L A0 = A at e35 e36 e37 ⊢
                    simp [execOp, resolve, go_sem, e35, e36, e37]
                  · refine (spec_l31Side.calls _ _ _ _ _ _ _ w' G2.out).mono ?_; rintro e w2 ⟨rfl, hb2⟩; exact ⟨rfl, hK w2 (hS.step hb2)⟩
                · obtain rfl := Option.some.inj ho
                  obtain rfl := vs_at hVS hv rfl
                  have e34 := fill_get HN hVS hT_ (t := 34) (j := 3) rfl rfl (hpre ⟨3, .data⟩ (by simp) rfl)
                  have e38 := fill_get HN hVS hT_ (t := 38) (j := 7) rfl rfl (hpre ⟨7, .data⟩ (by simp) rfl)
                  refine st_val HF rfl (by simp) rfl (w' := w') ?_ (hK w' hS)
                  generalize fill VS L A0 = A at e34 e38 ⊢
                  simp [execOp, go_sem, i64_w, e34, e38]
                · obtain rfl := Option.some.inj ho
                  obtain rfl := vs_at hVS hv rfl
                  have e39 := fill_get HN hVS hT_ (t := 39) (j := 8) rfl rfl (hpre ⟨8, .data⟩ (by simp) rfl)
                  have c1 := cb
                  refine st_val HF rfl (by simp) rfl (w' := w') ?_ (hK w' hS)
                  generalize fill VS L A0 = A at e39 ⊢
                  simp [execOp, go_sem, i64_w, e39, c1]
                · obtain rfl := Option.some.inj ho
                  obtain rfl := vs_at hVS hv rfl
                  have e40 := fill_get HN hVS hT_ (t := 40) (j := 9) rfl rfl (hpre ⟨9, .data⟩ (by simp) rfl)
                  refine st_val HF rfl (by simp) rfl (w' := w') ?_ (hK w' hS)
                  generalize fill VS L A0 = A at e40 ⊢
                  simp [execOp, go_sem, i64_w, e40]
                · obtain rfl := Option.some.inj ho
                  obtain rfl := vs_at hVS hv rfl
                  have eg := fill_get HN hVS hT_ (t := 41) (j := 10) rfl rfl (hpre ⟨10, .guard⟩ (by simp) rfl)
                  have e6 := E6 L
                  have c1 := hS.r0
                  have c2 := hS.r1
                  refine st_val HF rfl (by simp) ((wanted_is rfl rfl eg).trans rfl) (w' := w') ?_ (hK w' hS)
                  generalize fill VS L A0 = A at e6 ⊢
                  simp [execOp, go_sem, i64_w, e6, c1, c2]
                · obtain rfl := Option.some.inj ho
                  obtain rfl := vs_at hVS hv rfl
                  have eg := fill_get HN hVS hT_ (t := 41) (j := 10) rfl rfl (hpre ⟨10, .guard⟩ (by simp) rfl)
                  have e7 := E7 L
                  have c1 := hS.s0
                  have c2 := hS.s1
                  refine st_val HF rfl (by simp) ((wanted_is rfl rfl eg).trans rfl) (w' := w') ?_ (hK w' hS)
                  generalize fill VS L A0 = A at e7 ⊢
                  simp [execOp, go_sem, i64_w, e7, c1, c2]
                · obtain rfl := Option.some.inj ho
                  obtain rfl := vs_at hVS hv rfl
                  have eg := fill_get HN hVS hT_ (t := 41) (j := 10) rfl rfl (hpre ⟨10, .guard⟩ (by simp) rfl)
                  have e4 := E4 L
                  have c1 := hS.p0
                  have c2 := hS.p1
                  refine st_val HF rfl (by simp) ((wanted_is rfl rfl eg).trans rfl) (w' := w') ?_ (hK w' hS)
                  generalize fill VS L A0 = A at e4 ⊢
                  simp [execOp, go_sem, i64_w, e4, c1, c2]
                · obtain rfl := Option.some.inj ho
                  obtain rfl := vs_at hVS hv rfl
                  have eg := fill_get HN hVS hT_ (t := 41) (j := 10) rfl rfl (hpre ⟨10, .guard⟩ (by simp) rfl)
                  have e42 := fill_get HN hVS hT_ (t := 42) (j := 11) rfl rfl (hpre ⟨11, .data⟩ (by simp) rfl)
                  have e43 := fill_get HN hVS hT_ (t := 43) (j := 12) rfl rfl (hpre ⟨12, .data⟩ (by simp) rfl)
                  have e44 := fill_get HN hVS hT_ (t := 44) (j := 13) rfl rfl (hpre ⟨13, .data⟩ (by simp) rfl)
                  refine st_call HF rfl (by simp) ((wanted_is rfl rfl eg).trans rfl) (w := w') (f := 64) (args := #[.agg #[.int .i64 a2_0, .int .i64 a2_1], .agg #[.int .i64 a3_0, .int .i64 a3_1], .agg #[.int .i64 a0_0, .int .i64 a0_1]]) (v := .int .i64 t3) ?_ ?_
                  · generalize fill VS L A0 = A at e42 e43 e44 ⊢
                    simp [execOp, resolve, go_sem, e42, e43, e44]
                  · refine (spec_l31Side.calls _ _ _ _ _ _ _ w' G3.out).mono ?_; rintro e w2 ⟨rfl, hb2⟩; exact ⟨rfl, hK w2 (hS.step hb2)⟩
                · obtain rfl := Option.some.inj ho
                  obtain rfl := vs_at hVS hv rfl
                  have eg := fill_get HN hVS hT_ (t := 41) (j := 10) rfl rfl (hpre ⟨10, .guard⟩ (by simp) rfl)
                  have e6 := E6 L
                  have c1 := hS.r0
                  have c2 := hS.r1
                  refine st_val HF rfl (by simp) ((wanted_is rfl rfl eg).trans rfl) (w' := w') ?_ (hK w' hS)
                  generalize fill VS L A0 = A at e6 ⊢
                  simp [execOp, go_sem, i64_w, e6, c1, c2]
                · obtain rfl := Option.some.inj ho
                  obtain rfl := vs_at hVS hv rfl
                  have eg := fill_get HN hVS hT_ (t := 41) (j := 10) rfl rfl (hpre ⟨10, .guard⟩ (by simp) rfl)
                  have e7 := E7 L
                  have c1 := hS.s0
                  have c2 := hS.s1
                  refine st_val HF rfl (by simp) ((wanted_is rfl rfl eg).trans rfl) (w' := w') ?_ (hK w' hS)
                  generalize fill VS L A0 = A at e7 ⊢
                  simp [execOp, go_sem, i64_w, e7, c1, c2]
                · obtain rfl := Option.some.inj ho
                  obtain rfl := vs_at hVS hv rfl
                  have eg := fill_get HN hVS hT_ (t := 41) (j := 10) rfl rfl (hpre ⟨10, .guard⟩ (by simp) rfl)
                  have e5 := E5 L
                  have c1 := hS.q0
                  have c2 := hS.q1
                  refine st_val HF rfl (by simp) ((wanted_is rfl rfl eg).trans rfl) (w' := w') ?_ (hK w' hS)
                  generalize fill VS L A0 = A at e5 ⊢
                  simp [execOp, go_sem, i64_w, e5, c1, c2]
                · obtain rfl := Option.some.inj ho
                  obtain rfl := vs_at hVS hv rfl
                  have eg := fill_get HN hVS hT_ (t := 41) (j := 10) rfl rfl (hpre ⟨10, .guard⟩ (by simp) rfl)
                  have e46 := fill_get HN hVS hT_ (t := 46) (j := 15) rfl rfl (hpre ⟨15, .data⟩ (by simp) rfl)
                  have e47 := fill_get HN hVS hT_ (t := 47) (j := 16) rfl rfl (hpre ⟨16, .data⟩ (by simp) rfl)
                  have e48 := fill_get HN hVS hT_ (t := 48) (j := 17) rfl rfl (hpre ⟨17, .data⟩ (by simp) rfl)
                  refine st_call HF rfl (by simp) ((wanted_is rfl rfl eg).trans rfl) (w := w') (f := 64) (args := #[.agg #[.int .i64 a2_0, .int .i64 a2_1], .agg #[.int .i64 a3_0, .int .i64 a3_1], .agg #[.int .i64 a1_0, .int .i64 a1_1]]) (v := .int .i64 t4) ?_ ?_
                  · generalize fill VS L A0 = A at e46 e47 e48 ⊢
                    simp [execOp, resolve, go_sem, e46, e47, e48]
                  · refine (spec_l31Side.calls _ _ _ _ _ _ _ w' G4.out).mono ?_; rintro e w2 ⟨rfl, hb2⟩; exact ⟨rfl, hK w2 (hS.step hb2)⟩
                · obtain rfl := Option.some.inj ho
                  obtain rfl := vs_at hVS hv rfl
                  have eg := fill_get HN hVS hT_ (t := 41) (j := 10) rfl rfl (hpre ⟨10, .guard⟩ (by simp) rfl)
                  have e45 := fill_get HN hVS hT_ (t := 45) (j := 14) rfl rfl (hpre ⟨14, .data⟩ (by simp) rfl)
                  have e49 := fill_get HN hVS hT_ (t := 49) (j := 18) rfl rfl (hpre ⟨18, .data⟩ (by simp) rfl)
                  refine st_val HF rfl (by simp) ((wanted_is rfl rfl eg).trans rfl) (w' := w') ?_ (hK w' hS)
                  generalize fill VS L A0 = A at e45 e49 ⊢
                  simp [execOp, go_sem, i64_w, e45, e49]
                · obtain rfl := Option.some.inj ho
                  obtain rfl := vs_at hVS hv rfl
                  have eg := fill_get HN hVS hT_ (t := 41) (j := 10) rfl rfl (hpre ⟨10, .guard⟩ (by simp) rfl)
                  have e50 := fill_get HN hVS hT_ (t := 50) (j := 19) rfl rfl (hpre ⟨19, .data⟩ (by simp) rfl)
                  refine st_val HF rfl (by simp) ((wanted_is rfl rfl eg).trans rfl) (w' := w') ?_ (hK w' hS)
                  generalize fill VS L A0 = A at e50 ⊢
                  simp [execOp, go_sem, i64_w, e50]
                · obtain rfl := Option.some.inj ho
                  obtain rfl := vs_at hVS hv rfl
                  have e41 := fill_get HN hVS hT_ (t := 41) (j := 10) rfl rfl (hpre ⟨10, .data⟩ (by simp) rfl)
                  have e51 := fill_get HN hVS hT_ (t := 51) (j := 20) rfl rfl (hpre ⟨20, .data⟩ (by simp) rfl)
                  refine st_val HF rfl (by simp) rfl (w' := w') ?_ (hK w' hS)
                  generalize fill VS L A0 = A at e41 e51 ⊢
                  simp [execOp, go_sem, i64_w, e41, e51]
                · obtain rfl := Option.some.inj ho
                  obtain rfl := vs_at hVS hv rfl
                  have e52 := fill_get HN hVS hT_ (t := 52) (j := 21) rfl rfl (hpre ⟨21, .data⟩ (by simp) rfl)
                  refine st_val HF rfl (by simp) rfl (w' := w') ?_ (hK w' hS)
                  generalize fill VS L A0 = A at e52 ⊢
                  simp [execOp, go_sem, i64_w, e52]
              · intro w' hS'
                rw [← hVS, ← hA0]
                simp only [List.size_toArray, List.length_cons, List.length_nil, Nat.reduceAdd, List.replicate, fill, if_true, Act.put, List.setIfInBounds_toArray, List.set_cons_succ, List.set_cons_zero]
                clear HN E4 E5 E6 E7 hVS hA0 hT_
                have HX := Aside0.mk hS'
                clear hS'
                go_wp2
                go_ret
                exact ⟨rfl, HX.out.be⟩
            · rw [if_neg c] at h
              obtain rfl := Option.some.inj h
              have cb := decide_eq_false c
              clear h c
              go_enter Try.func51, Try.ntmps51
              go_wp2_with (go_at_call 50; (first | (with_reducible refine (spec_l2On.calls _ _ _ _ _ _ _ _ F1.out).mono ?_) | (with_reducible refine (spec_l2On.calls _ _ _ _ _ _ _ _ F2.out).mono ?_) | (with_reducible refine (spec_l2On.calls _ _ _ _ _ _ _ _ F3.out).mono ?_) | (with_reducible refine (spec_l2On.calls _ _ _ _ _ _ _ _ F4.out).mono ?_)); rintro e wz ⟨rfl, hb⟩; have HX2 := Aside0.mk (HX.out.step hb); clear hb HX; have HX := HX2; clear HX2; have p0 := HX.out.p0; have p1 := HX.out.p1; have q0 := HX.out.q0; have q1 := HX.out.q1; have r0 := HX.out.r0; have r1 := HX.out.r1; have s0 := HX.out.s0; have s1 := HX.out.s1)
              refine wpIn_wide (n := 0) |>.1 ?_
              have HF := wide_plain Try.prog
              obtain ⟨VS, hVS⟩ : ∃ VS : List (Option Tmp × Value), [(some 31, .agg #[.int .i64 a0_0, .int .i64 a0_1]), (some 32, .agg #[.int .i64 a1_0, .int .i64 a1_1]), (some 33, .agg #[.int .i64 a2_0, .int .i64 a2_1]), (some 34, .int .i64 t1), (some 35, .agg #[.int .i64 a0_0, .int .i64 a0_1]), (some 36, .agg #[.int .i64 a1_0, .int .i64 a1_1]), (some 37, .agg #[.int .i64 a3_0, .int .i64 a3_1]), (some 38, .int .i64 t2), (some 39, .int .i64 (wrap64 (t1 * t2))), (some 40, .bool false), (some 41, .bool false), (some 42, undef), (some 43, undef), (some 44, undef), (some 45, undef), (some 46, undef), (some 47, undef), (some 48, undef), (some 49, undef), (some 50, undef), (some 51, undef), (some 52, .bool false), (some 8, .bool false)] = VS := ⟨_, rfl⟩
              have HN : (VS.filterMap (·.1)).Nodup := by rw [← hVS]; exact (show List.Nodup [(31 : Tmp), (32 : Tmp), (33 : Tmp), (34 : Tmp), (35 : Tmp), (36 : Tmp), (37 : Tmp), (38 : Tmp), (39 : Tmp), (40 : Tmp), (41 : Tmp), (42 : Tmp), (43 : Tmp), (44 : Tmp), (45 : Tmp), (46 : Tmp), (47 : Tmp), (48 : Tmp), (49 : Tmp), (50 : Tmp), (51 : Tmp), (52 : Tmp), (8 : Tmp)] by decide)
              refine act_name fun A0 hA0 => ?_
              have hT_ : 52 < A0.tmps.size := by rw [← hA0]; simp
              have E4 : ∀ L : List Bool, (fill VS L A0).tmps[4]?.getD undef = .pointer (some ⟨w.heap.size, 0, none⟩) := fun L => fill_old _ _ _ qq49 (by rw [← hA0]; rfl)
              have E5 : ∀ L : List Bool, (fill VS L A0).tmps[5]?.getD undef = .pointer (some ⟨w.heap.size + 1, 0, none⟩) := fun L => fill_old _ _ _ qq50 (by rw [← hA0]; rfl)
              have E6 : ∀ L : List Bool, (fill VS L A0).tmps[6]?.getD undef = .pointer (some ⟨w.heap.size + 2, 0, none⟩) := fun L => fill_old _ _ _ qq51 (by rw [← hA0]; rfl)
              have E7 : ∀ L : List Bool, (fill VS L A0).tmps[7]?.getD undef = .pointer (some ⟨w.heap.size + 3, 0, none⟩) := fun L => fill_old _ _ _ qq52 (by rw [← hA0]; rfl)
              refine drawn_same (by kernel_rfl) (early_spec (by kernel_rfl)) VS (by rw [← hVS]; rfl) HN (fun w' => Bx w w' a0_0 a0_1 a1_0 a1_1 a2_0 a2_1 a3_0 a3_1) (HX.out.step ((Below.refl _ _).drew)) ?_ ?_
              · intro i o v L w' ho hv hpre hS K hK
                have hii : i = 0 ∨ i = 1 ∨ i = 2 ∨ i = 3 ∨ i = 4 ∨ i = 5 ∨ i = 6 ∨ i = 7 ∨ i = 8 ∨ i = 9 ∨ i = 10 ∨ i = 11 ∨ i = 12 ∨ i = 13 ∨ i = 14 ∨ i = 15 ∨ i = 16 ∨ i = 17 ∨ i = 18 ∨ i = 19 ∨ i = 20 ∨ i = 21 ∨ i = 22 := by have hq := (Array.getElem?_eq_some_iff.1 ho).1; simp at hq; omega
                rcases hii with rfl | rfl | rfl | rfl | rfl | rfl | rfl | rfl | rfl | rfl | rfl | rfl | rfl | rfl | rfl | rfl | rfl | rfl | rfl | rfl | rfl | rfl | rfl
                · obtain rfl := Option.some.inj ho
                  obtain rfl := vs_at hVS hv rfl
                  have e4 := E4 L
                  have c1 := hS.p0
                  have c2 := hS.p1
                  refine st_val HF rfl (by simp) rfl (w' := w') ?_ (hK w' hS)
                  generalize fill VS L A0 = A at e4 ⊢
                  simp [execOp, go_sem, i64_w, e4, c1, c2]
                · obtain rfl := Option.some.inj ho
                  obtain rfl := vs_at hVS hv rfl
                  have e5 := E5 L
                  have c1 := hS.q0
                  have c2 := hS.q1
                  refine st_val HF rfl (by simp) rfl (w' := w') ?_ (hK w' hS)
                  generalize fill VS L A0 = A at e5 ⊢
                  simp [execOp, go_sem, i64_w, e5, c1, c2]
                · obtain rfl := Option.some.inj ho
                  obtain rfl := vs_at hVS hv rfl
                  have e6 := E6 L
                  have c1 := hS.r0
                  have c2 := hS.r1
                  refine st_val HF rfl (by simp) rfl (w' := w') ?_ (hK w' hS)
                  generalize fill VS L A0 = A at e6 ⊢
                  simp [execOp, go_sem, i64_w, e6, c1, c2]
                · obtain rfl := Option.some.inj ho
                  obtain rfl := vs_at hVS hv rfl
                  have e31 := fill_get HN hVS hT_ (t := 31) (j := 0) rfl rfl (hpre ⟨0, .data⟩ (by simp) rfl)
                  have e32 := fill_get HN hVS hT_ (t := 32) (j := 1) rfl rfl (hpre ⟨1, .data⟩ (by simp) rfl)
                  have e33 := fill_get HN hVS hT_ (t := 33) (j := 2) rfl rfl (hpre ⟨2, .data⟩ (by simp) rfl)
                  refine st_call HF rfl (by simp) rfl (w := w') (f := 64) (args := #[.agg #[.int .i64 a0_0, .int .i64 a0_1], .agg #[.int .i64 a1_0, .int .i64 a1_1], .agg #[.int .i64 a2_0, .int .i64 a2_1]]) (v := .int .i64 t1) ?_ ?_
                  · generalize fill VS L A0 = A at e31 e32 e33 ⊢
                    simp [execOp, resolve, go_sem, e31, e32, e33]
                  · refine (spec_l31Side.calls _ _ _ _ _ _ _ w' G1.out).mono ?_; rintro e w2 ⟨rfl, hb2⟩; exact ⟨rfl, hK w2 (hS.step hb2)⟩
                · obtain rfl := Option.some.inj ho
                  obtain rfl := vs_at hVS hv rfl
                  have e4 := E4 L
                  have c1 := hS.p0
                  have c2 := hS.p1
                  refine st_val HF rfl (by simp) rfl (w' := w') ?_ (hK w' hS)
                  generalize fill VS L A0 = A at e4 ⊢
                  simp [execOp, go_sem, i64_w, e4, c1, c2]
                · obtain rfl := Option.some.inj ho
                  obtain rfl := vs_at hVS hv rfl
                  have e5 := E5 L
                  have c1 := hS.q0
                  have c2 := hS.q1
                  refine st_val HF rfl (by simp) rfl (w' := w') ?_ (hK w' hS)
                  generalize fill VS L A0 = A at e5 ⊢
                  simp [execOp, go_sem, i64_w, e5, c1, c2]
                · obtain rfl := Option.some.inj ho
                  obtain rfl := vs_at hVS hv rfl
                  have e7 := E7 L
                  have c1 := hS.s0
                  have c2 := hS.s1
                  refine st_val HF rfl (by simp) rfl (w' := w') ?_ (hK w' hS)
                  generalize fill VS L A0 = A at e7 ⊢
                  simp [execOp, go_sem, i64_w, e7, c1, c2]
                · obtain rfl := Option.some.inj ho
                  obtain rfl := vs_at hVS hv rfl
                  have e35 := fill_get HN hVS hT_ (t := 35) (j := 4) rfl rfl (hpre ⟨4, .data⟩ (by simp) rfl)
                  have e36 := fill_get HN hVS hT_ (t := 36) (j := 5) rfl rfl (hpre ⟨5, .data⟩ (by simp) rfl)
                  have e37 := fill_get HN hVS hT_ (t := 37) (j := 6) rfl rfl (hpre ⟨6, .data⟩ (by simp) rfl)
                  refine st_call HF rfl (by simp) rfl (w := w') (f := 64) (args := #[.agg #[.int .i64 a0_0, .int .i64 a0_1], .agg #[.int .i64 a1_0, .int .i64 a1_1], .agg #[.int .i64 a3_0, .int .i64 a3_1]]) (v := .int .i64 t2) ?_ ?_
                  · generalize fill VS L A0 = A at e35 e36 e37 ⊢
                    simp [execOp, resolve, go_sem, e35, e36, e37]
                  · refine (spec_l31Side.calls _ _ _ _ _ _ _ w' G2.out).mono ?_; rintro e w2 ⟨rfl, hb2⟩; exact ⟨rfl, hK w2 (hS.step hb2)⟩
                · obtain rfl := Option.some.inj ho
                  obtain rfl := vs_at hVS hv rfl
                  have e34 := fill_get HN hVS hT_ (t := 34) (j := 3) rfl rfl (hpre ⟨3, .data⟩ (by simp) rfl)
                  have e38 := fill_get HN hVS hT_ (t := 38) (j := 7) rfl rfl (hpre ⟨7, .data⟩ (by simp) rfl)
                  refine st_val HF rfl (by simp) rfl (w' := w') ?_ (hK w' hS)
                  generalize fill VS L A0 = A at e34 e38 ⊢
                  simp [execOp, go_sem, i64_w, e34, e38]
                · obtain rfl := Option.some.inj ho
                  obtain rfl := vs_at hVS hv rfl
                  have e39 := fill_get HN hVS hT_ (t := 39) (j := 8) rfl rfl (hpre ⟨8, .data⟩ (by simp) rfl)
                  have c1 := cb
                  refine st_val HF rfl (by simp) rfl (w' := w') ?_ (hK w' hS)
                  generalize fill VS L A0 = A at e39 ⊢
                  simp [execOp, go_sem, i64_w, e39, c1]
                · obtain rfl := Option.some.inj ho
                  obtain rfl := vs_at hVS hv rfl
                  have e40 := fill_get HN hVS hT_ (t := 40) (j := 9) rfl rfl (hpre ⟨9, .data⟩ (by simp) rfl)
                  refine st_val HF rfl (by simp) rfl (w' := w') ?_ (hK w' hS)
                  generalize fill VS L A0 = A at e40 ⊢
                  simp [execOp, go_sem, i64_w, e40]
                · obtain rfl := Option.some.inj ho
                  obtain rfl := vs_at hVS hv rfl
                  have eg := fill_get HN hVS hT_ (t := 41) (j := 10) rfl rfl (hpre ⟨10, .guard⟩ (by simp) rfl)
                  exact st_unwanted HF rfl ((wanted_is rfl rfl eg).trans rfl) (hK w' hS)
                · obtain rfl := Option.some.inj ho
                  obtain rfl := vs_at hVS hv rfl
                  have eg := fill_get HN hVS hT_ (t := 41) (j := 10) rfl rfl (hpre ⟨10, .guard⟩ (by simp) rfl)
                  exact st_unwanted HF rfl ((wanted_is rfl rfl eg).trans rfl) (hK w' hS)
                · obtain rfl := Option.some.inj ho
                  obtain rfl := vs_at hVS hv rfl
                  have eg := fill_get HN hVS hT_ (t := 41) (j := 10) rfl rfl (hpre ⟨10, .guard⟩ (by simp) rfl)
                  exact st_unwanted HF rfl ((wanted_is rfl rfl eg).trans rfl) (hK w' hS)
                · obtain rfl := Option.some.inj ho
                  obtain rfl := vs_at hVS hv rfl
                  have eg := fill_get HN hVS hT_ (t := 41) (j := 10) rfl rfl (hpre ⟨10, .guard⟩ (by simp) rfl)
                  exact st_unwanted HF rfl ((wanted_is rfl rfl eg).trans rfl) (hK w' hS)
                · obtain rfl := Option.some.inj ho
                  obtain rfl := vs_at hVS hv rfl
                  have eg := fill_get HN hVS hT_ (t := 41) (j := 10) rfl rfl (hpre ⟨10, .guard⟩ (by simp) rfl)
                  exact st_unwanted HF rfl ((wanted_is rfl rfl eg).trans rfl) (hK w' hS)
                · obtain rfl := Option.some.inj ho
                  obtain rfl := vs_at hVS hv rfl
                  have eg := fill_get HN hVS hT_ (t := 41) (j := 10) rfl rfl (hpre ⟨10, .guard⟩ (by simp) rfl)
                  exact st_unwanted HF rfl ((wanted_is rfl rfl eg).trans rfl) (hK w' hS)
                · obtain rfl := Option.some.inj ho
                  obtain rfl := vs_at hVS hv rfl
                  have eg := fill_get HN hVS hT_ (t := 41) (j := 10) rfl rfl (hpre ⟨10, .guard⟩ (by simp) rfl)
                  exact st_unwanted HF rfl ((wanted_is rfl rfl eg).trans rfl) (hK w' hS)
                · obtain rfl := Option.some.inj ho
                  obtain rfl := vs_at hVS hv rfl
                  have eg := fill_get HN hVS hT_ (t := 41) (j := 10) rfl rfl (hpre ⟨10, .guard⟩ (by simp) rfl)
                  exact st_unwanted HF rfl ((wanted_is rfl rfl eg).trans rfl) (hK w' hS)
                · obtain rfl := Option.some.inj ho
                  obtain rfl := vs_at hVS hv rfl
                  have eg := fill_get HN hVS hT_ (t := 41) (j := 10) rfl rfl (hpre ⟨10, .guard⟩ (by simp) rfl)
                  exact st_unwanted HF rfl ((wanted_is rfl rfl eg).trans rfl) (hK w' hS)
                · obtain rfl := Option.some.inj ho
                  obtain rfl := vs_at hVS hv rfl
                  have eg := fill_get HN hVS hT_ (t := 41) (j := 10) rfl rfl (hpre ⟨10, .guard⟩ (by simp) rfl)
                  exact st_unwanted HF rfl ((wanted_is rfl rfl eg).trans rfl) (hK w' hS)
                · obtain rfl := Option.some.inj ho
                  obtain rfl := vs_at hVS hv rfl
                  have e41 := fill_get HN hVS hT_ (t := 41) (j := 10) rfl rfl (hpre ⟨10, .data⟩ (by simp) rfl)
                  have e51 := fill_get HN hVS hT_ (t := 51) (j := 20) rfl rfl (hpre ⟨20, .data⟩ (by simp) rfl)
                  refine st_val HF rfl (by simp) rfl (w' := w') ?_ (hK w' hS)
                  generalize fill VS L A0 = A at e41 e51 ⊢
                  simp [execOp, go_sem, i64_w, e41, e51]
                · obtain rfl := Option.some.inj ho
                  obtain rfl := vs_at hVS hv rfl
                  have e52 := fill_get HN hVS hT_ (t := 52) (j := 21) rfl rfl (hpre ⟨21, .data⟩ (by simp) rfl)
                  refine st_val HF rfl (by simp) rfl (w' := w') ?_ (hK w' hS)
                  generalize fill VS L A0 = A at e52 ⊢
                  simp [execOp, go_sem, i64_w, e52]
              · intro w' hS'
                rw [← hVS, ← hA0]
                simp only [List.size_toArray, List.length_cons, List.length_nil, Nat.reduceAdd, List.replicate, fill, if_true, Act.put, List.setIfInBounds_toArray, List.set_cons_succ, List.set_cons_zero]
                clear HN E4 E5 E6 E7 hVS hA0 hT_
                have HX := Aside0.mk hS'
                clear hS'
                go_wp2
                go_ret
                exact ⟨rfl, HX.out.be⟩

end Go.Proofs.Ytgdhgncdpmalcaa.Q
namespace Go.Proofs.Ytgdhgncdpmalcaa.Ring
open Go.RowKit Go.Shelf Go.Proofs.Ytgdhgncdpmalcaa.Q Go.Proofs.Ytgdhgncdpmalcaa.Drawn Go.Proofs.YtgdhgncdpmalcaaW.PrintWords Go.Proofs.YtgdhgncdpmalcaaW.PrintLast Go.Proofs.YtgdhgncdpmalcaaW.PrintMore
theorem pv_at {l : List Pt} (h : Pure.cvB l = true) {j : Nat} (hj : j < l.length) : Pure.PV (at_ l j).f0 (at_ l j).f1 = true := by
  have := Pure.ptB_iff.1 ((Pure.cvB_iff.1 h).2 (at_ l j) (by unfold at_; rw [List.getD_eq_getElem?_getD, List.getElem?_eq_getElem hj]; exact List.getElem_mem hj))
  exact Pure.PV_iff.2 ⟨this.1.1, this.1.2, this.2.1, this.2.2⟩
def PVP (p : Pt) : Prop := Pure.PV p.f0 p.f1 = true
theorem on_f {p q r : Pt} (hp : PVP p) (hq : PVP q) (hr : PVP r) : spec_l2On.f p.f0 p.f1 q.f0 q.f1 r.f0 r.f1 = some (onPt p q r) := by
  rw [Pure.spec_l2On_eq hp hq hr]
  unfold onPt Pure.onR
  congr 1
  rw [decide_eq_decide]
  exact ⟨fun h => ⟨hp, hq, hr, h⟩, fun h => h.2.2.2⟩
theorem side_f {p q r : Pt} (hp : PVP p) (hq : PVP q) (hr : PVP r) : spec_l31Side.f p.f0 p.f1 q.f0 q.f1 r.f0 r.f1 = some (sgnP p q r) := by
  unfold spec_l31Side.f
  rw [Pure.spec_l2Step_eq hp hq, Pure.spec_l2Step_eq hp hr]
  simp only [Option.bind_some]
  rw [Pure.spec_cross_eq hp hq hr]
  simp only [Option.bind_some]
  rw [Pure.l1Sign_eq]
  simp only [Option.bind_some]
  unfold sgnP
  rw [Pure.sideR_yes hp hq hr]
theorem sgn_mul (p q r p' q' r' : Pt) : wrap64 (sgnP p q r * sgnP p' q' r') = sgnP p q r * sgnP p' q' r' := by
  obtain ⟨a, b⟩ := sgnP_bd p q r
  obtain ⟨c, d⟩ := sgnP_bd p' q' r'
  generalize sgnP p q r = x at *
  generalize sgnP p' q' r' = y at *
  have hx : x = -1 ∨ x = 0 ∨ x = 1 := by omega
  have hy : y = -1 ∨ y = 0 ∨ y = 1 := by omega
  rcases hx with rfl | rfl | rfl <;> rcases hy with rfl | rfl | rfl <;> exact Pure.pw64 (by decide) (by decide)
theorem meet_f {a b c d : Pt} (ha : PVP a) (hb : PVP b) (hc : PVP c) (hd : PVP d) : spec_l31Meet.f 1 a.f0 a.f1 b.f0 b.f1 c.f0 c.f1 d.f0 d.f1 = some (meetPt a b c d) := by
  unfold spec_l31Meet.f
  rw [on_f ha hb hc, on_f ha hb hd, on_f hc hd ha, on_f hc hd hb]
  simp only [Option.bind_some, spec_l31Meet.j0]
  rw [side_f ha hb hc, side_f ha hb hd, side_f hc hd ha, side_f hc hd hb]
  simp only [Option.bind_some, sgn_mul]
  unfold meetPt
  cases onPt a b c
  · cases onPt a b d
    · cases onPt c d a
      · cases onPt c d b
        · simp only [Bool.false_eq_true, if_false, Bool.false_or]
          by_cases h : sgnP a b c * sgnP a b d < 0
          · rw [if_pos h, decide_eq_true h, Bool.true_and]
          · rw [if_neg h, decide_eq_false h, Bool.false_and]
        · rfl
      · rfl
    · rfl
  · rfl
end Go.Proofs.Ytgdhgncdpmalcaa.Ring
namespace Go.Proofs.Ytgdhgncdpmalcaa.Pure
open Go.RowKit Go.Proofs.Ytgdhgncdpmalcaa.Q Go.Proofs.YtgdhgncdpmalcaaW.PrintWords Go.Proofs.YtgdhgncdpmalcaaW.PrintLast
theorem p6In_eq (a b c : Int) : spec_l6In.f a b c = some (decide (b ≤ a ∧ a ≤ c)) := by
  unfold spec_l6In.f
  by_cases h : a ≥ b
  · rw [if_pos h]; congr 1; rw [decide_eq_decide]; omega
  · rw [if_neg h]; congr 1; symm; rw [decide_eq_false_iff_not]; omega
theorem spec_PtValid_eq (p : Pt) : spec_PointValid.f p.f0 p.f1 = some (ptB p) := by
  simp only [spec_PointValid.f, p6In_eq, Option.bind_some]
  unfold ptB
  by_cases h : -10000 ≤ p.f0 ∧ p.f0 ≤ 10000
  · rw [if_pos (by simpa using h)]; congr 1; rw [decide_eq_decide]; exact ⟨fun q => ⟨h, q⟩, fun q => q.2⟩
  · rw [if_neg (by simpa using h)]; congr 1; symm; rw [decide_eq_false_iff_not]; exact fun q => h q.1
theorem l31Points_l0 {l : List Pt} (hl : l.length ≤ 4611686018427387903) (suf : List Pt) : ∀ (pre : List Pt) (k : Nat), suf.length < k → l = pre ++ suf →
    spec_l31Points.l0 k l (pre.length : Int) = some (suf.all ptB && decide (3 ≤ l.length ∧ l.length ≤ 12)) := by
  induction suf with
  | nil =>
    intro pre k hk he
    obtain ⟨k, rfl⟩ : ∃ m, k = m + 1 := ⟨k - 1, by omega⟩
    rw [List.append_nil] at he
    subst he
    rw [spec_l31Points.l0, if_neg (by omega), p6In_eq]
    simp only [Option.bind_some, List.all_nil, Bool.true_and]
    congr 1; rw [decide_eq_decide]; omega
  | cons y suf ih =>
    intro pre k hk he
    rw [List.length_cons] at hk
    obtain ⟨k, rfl⟩ : ∃ m, k = m + 1 := ⟨k - 1, by omega⟩
    have hlen : l.length = pre.length + suf.length + 1 := by rw [he]; simp; omega
    have hy : rd_T32 l (pre.length : Int) = y := by rw [he]; exact rd_midP pre suf y
    rw [spec_l31Points.l0, if_pos (by omega), if_pos (by omega), hy, spec_PtValid_eq]
    simp only [Option.bind_some, List.all_cons]
    by_cases h : ptB y = true
    · rw [if_pos h, next_midP pre y (by omega), ih (pre ++ [y]) k (by omega) (by rw [he]; simp), h, Bool.true_and]
    · rw [if_neg h, Bool.eq_false_iff.2 h, Bool.false_and, Bool.false_and]
theorem l31Points_eq (k : Nat) (l : List Pt) (hl : l.length ≤ 1048576) (hk : l.length < k) : spec_l31Points.f k l = some (cvB l) := by
  unfold spec_l31Points.f cvB
  have := l31Points_l0 (l := l) (by omega) l [] k hk rfl
  rw [Bool.and_comm] at this
  simpa using this
end Go.Proofs.Ytgdhgncdpmalcaa.Pure
namespace Go.Proofs.Ytgdhgncdpmalcaa.Ring
open Go.RowKit Go.Shelf Go.Proofs.Ytgdhgncdpmalcaa.Q Go.Proofs.Ytgdhgncdpmalcaa.Drawn Go.Proofs.YtgdhgncdpmalcaaW.PrintWords Go.Proofs.YtgdhgncdpmalcaaW.PrintLast Go.Proofs.YtgdhgncdpmalcaaW.PrintMore
set_option linter.unusedVariables false
set_option linter.unusedSimpArgs false
/-- A goal at which a walk stands still. -/
structure Halted (p : Prop) : Prop where
  intro ::
  out : p
/-- What the reference asks of the sides i and k. -/
def badAt (l : List Pt) (i k : Nat) : Bool :=
  if k = i + 1 then sameP (at_ l k) (at_ l i) || sameP (nxt l k) (at_ l k) || onPt (at_ l i) (nxt l i) (nxt l k) || onPt (at_ l k) (nxt l k) (at_ l i)
  else if (k + 1) % l.length = i then onPt (at_ l k) (nxt l k) (nxt l i) || onPt (at_ l i) (nxt l i) (at_ l k)
  else meetPt (at_ l i) (nxt l i) (at_ l k) (nxt l k)
def pairsB (l : List Pt) : Bool := decide (∀ i, i < l.length → ∀ k, k < l.length → i < k → badAt l i k = false)
theorem pairs_bad {l : List Pt} {i k : Nat} (hi : i < l.length) (hk : k < l.length) (hik : i < k) (h : badAt l i k = true) : pairsB l = false :=
  decide_eq_false fun c => by rw [c i hi k hk hik] at h; exact absurd h (by decide)
theorem box_stored {W wS : World} {g : Nat} {t : TypeId} {x y u v : Value} (hb : W.heap[g]? = some (.cells #[u, v] t (0, 0))) (h : wS = (W.setCell ⟨g, 0, none⟩ x).setCell ⟨g, 1, none⟩ y) :
    wS.heap[g]? = some (.cells #[x, y] t (0, 0)) ∧ (∀ g' cs, g' ≠ g → W.heap[g']? = some (.cells cs t (0, 0)) → wS.heap[g']? = some (.cells cs t (0, 0))) ∧ (∀ w : World, Below w.heap.size w W → w.heap.size ≤ g → Below w.heap.size w wS) := by
  subst h
  exact ⟨blk_put (blk_put hb 0 x rfl) 1 y rfl, fun g' o hne hg => blk_far (blk_far hg hne x) hne y, fun w hb hg => below_set (below_set hb hg) hg⟩
theorem rd_below {w W : World} {ad : Addr} {l : List Pt} (hr : Kd.C k32 w (some ad) l.length l) (hb : Below w.heap.size w W) {j : Nat} (hj : j < l.length) :
    W.cell? (ad.add (j * 2)) = some (.int .i64 (at_ l j).f0) ∧ W.cell? ⟨(ad.add (j * 2)).block, (ad.add (j * 2)).off + 1, none⟩ = some (.int .i64 (at_ l j).f1) := by
  obtain ⟨ad1, e1, hx1, hy1⟩ := at_T32 hr (j : Int) (by omega) (by omega)
  cases e1
  rw [Int.toNat_natCast, at_rd] at hx1 hy1
  exact ⟨(hb.cell (World.block_lt_of_cell? w _ hx1)).trans hx1, (hb.cell (World.block_lt_of_cell? w _ hy1)).trans hy1⟩
theorem same_run {p q : Pt} {b : Bool} (h : sameP p q = b) (d : Nat) (w : World) : (Op.equalIn (d + 2) 32 (.agg #[.int .i64 p.f0, .int .i64 p.f1]) (.agg #[.int .i64 q.f0, .int .i64 q.f1])).run Try.prog w = .ok b w := by
  rw [run_samePt, ← h]; rfl
attribute [local irreducible] at_ nxt onPt meetPt sameP
set_option maxRecDepth 100000 in
set_option maxHeartbeats 4000000 in
theorem specValid_yes (A0 : Option Addr) (c0 : Nat) (l0 : List Pt) (w : World) (hr0 : Kd.C k32 w A0 l0.length l0) (hc0 : l0.length ≤ c0) (hcv : Pure.cvB l0 = true) :
    Calls Try.prog 19 #[.slice A0 l0.length c0] w fun e w' => e = .returned (.bool (pairsB l0)) ∧ Below w.heap.size w w' := by
  have h3 := (Pure.cvB_iff.1 hcv).1.1
  have h12 := (Pure.cvB_iff.1 hcv).1.2
  have hpts := (Pure.l31Points_eq 20 l0 (by omega) (by omega)).trans (congrArg some hcv)
  have hnz0 : ¬ (l0.length : Int) = 0 := by omega
  have hnz : ((l0.length : Int) == 0) = false := beq_eq_false_iff_ne.mpr hnz0
  have hnz1 : ¬ (l0 = []) := fun h => by have := congrArg List.length h; rw [List.length_nil] at this; omega
  obtain ⟨ad, rfl, hx0, hy0⟩ := at_T32 hr0 0 (by omega) (by omega)
  clear hx0 hy0
  have HR0 := Aside0.mk hr0
  have HC0 := Aside0.mk hc0
  have HX := Aside0.mk hpts
  clear hr0 hc0 hpts
  go_enter Try.func19, Try.ntmps19
  go_wp2_with (go_at_call 45; refine (spec_l31Points.calls 20 _ _ l0 true _ HR0.out HC0.out HX.out).mono ?_; rintro e w1 ⟨rfl, hb⟩)
  have HB := Aside0.mk hb
  clear hb
  go_loopg [4] (l0.length + 1) (fun kq v4 w' => ∃ (i : Nat), v4 = .int .i64 (i : Int) ∧ Aside0 (i + kq = l0.length + 1 ∧ i ≤ l0.length) ∧ Aside0 (∀ i', i' < i → ∀ k', k' < l0.length → i' < k' → badAt l0 i' k' = false) ∧ Aside0 (Below w.heap.size w w'))
  case atStart => exact ⟨0, rfl, ⟨by omega, by omega⟩, ⟨fun i' h => absurd h (Nat.not_lt_zero _)⟩, ⟨by exact HB.out⟩⟩
  case round =>
    obtain ⟨i, rfl, HI, HN, HB⟩ := hrel
    have hi1 := HI.out
    obtain ⟨ko, rfl⟩ : ∃ m, gk = m + 1 := ⟨gk - 1, by omega⟩
    by_cases hi : i < l0.length
    · have hd : decide ((i : Int) < (l0.length : Int)) = true := decide_eq_true (by omega)
      go_wp2
      go_loopg [5] (l0.length) (fun kq v5 w' => ∃ (j : Nat), v5 = .int .i64 (j : Int) ∧ Aside0 (j + kq = l0.length + i + 1 ∧ i < j ∧ j ≤ l0.length) ∧ Aside0 (∀ k', k' < j → i < k' → badAt l0 i k' = false) ∧ Aside0 (Below w.heap.size w w'))
      case atStart => exact ⟨i + 1, by simp, ⟨by omega, by omega, by omega⟩, ⟨fun i' h => by omega⟩, ⟨by exact (by repeat (first | exact HB.out | apply below_drew1))⟩⟩
      case round =>
        obtain ⟨j, rfl, HJ, HM, HB⟩ := hrel
        have hj1 := HJ.out
        obtain ⟨k1, rfl⟩ : ∃ m, gk = m + 1 := ⟨gk - 1, by omega⟩
        by_cases hj : j < l0.length
        · have hd2 : decide ((j : Int) < (l0.length : Int)) = true := decide_eq_true (by omega)
          obtain ⟨im, him⟩ : ∃ m, (i + 1) % l0.length = m := ⟨_, rfl⟩
          obtain ⟨jm, hjm⟩ : ∃ m, (j + 1) % l0.length = m := ⟨_, rfl⟩
          have him1 : im < l0.length := by rw [← him]; exact Nat.mod_lt _ (by omega)
          have hjm1 : jm < l0.length := by rw [← hjm]; exact Nat.mod_lt _ (by omega)
          have qi : ((i : Int) < (l0.length : Int)) = True := eq_true (Int.ofNat_lt.2 hi)
          have qj : ((j : Int) < (l0.length : Int)) = True := eq_true (Int.ofNat_lt.2 hj)
          have qi1 : ((im : Int) < (l0.length : Int)) = True := eq_true (Int.ofNat_lt.2 him1)
          have qj1 : ((jm : Int) < (l0.length : Int)) = True := eq_true (Int.ofNat_lt.2 hjm1)
          obtain ⟨rx, ry⟩ := rd_below HR0.out HB.out hi
          have HTI : Aside0 (((i : Int) + 1) % (l0.length : Int) = (im : Int)) := ⟨by rw [← him]; rfl⟩
          have HTJ : Aside0 (((j : Int) + 1) % (l0.length : Int) = (jm : Int)) := ⟨by rw [← hjm]; rfl⟩
          go_wp2_with (first | ((with_reducible refine gate_dst (N := 36) rfl ?_); rw [HTI.out]) | ((with_reducible refine gate_dst (N := 47) rfl ?_); rw [HTJ.out]) | ((with_reducible refine gate_dst (N := 85) rfl ?_); rw [HTJ.out]) | ((with_reducible refine gate_dst (N := 6) rfl ?_); refine box_event ?hg (N := 6) ?hd (cs := #[.int .i64 0, .int .i64 0]) (t := 32) ?hr ?_; (case hd => rfl); (case hg => rfl); (case hr => exact qq21); intro ba hg wba hbox hb; have n1 := Aside0.mk (below_step HB.out hb); have n2 := Aside0.mk (qq78 : w.heap.size ≤ ba); have hzba0 : wba.cell? ⟨ba, 0, none⟩ = some (.int .i64 0) := (blk_cell hbox 0).trans rfl; have hzba1 : wba.cell? ⟨ba, 1, none⟩ = some (.int .i64 0) := (blk_cell hbox 1).trans rfl; have hfba0 := blk_frozen hbox 0; have hfba1 := blk_frozen hbox 1; obtain ⟨z1, z2, z3⟩ := box_stored (wS := ((wba.setCell ⟨ba, 0, none⟩ (.int .i64 (at_ l0 i).f0)).setCell ⟨ba, 1, none⟩ (.int .i64 (at_ l0 i).f1))) hbox rfl; have n3 := Aside0.mk (z3 w n1.out n2.out); have n4 := Aside0.mk z1; clear HB z1 z2 z3; have HB := n3; have Gba := n2; have Bba := n4; clear n1 n2 n3 n4 hbox hb hg; clear rx ry; obtain ⟨rx, ry⟩ := rd_below HR0.out HB.out him1) | ((with_reducible refine gate_dst (N := 7) rfl ?_); refine box_event ?hg (N := 7) ?hd (cs := #[.int .i64 0, .int .i64 0]) (t := 32) ?hr ?_; (case hd => rfl); (case hg => rfl); (case hr => exact qq21); intro bb hg wbb hbox hb; have n1 := Aside0.mk (below_step HB.out hb); have n2 := Aside0.mk (qq78 : w.heap.size ≤ bb); have k0 := Aside0.mk (blk_below Bba.out hb); have m0 := Aside0.mk ((qq77 Bba.out) : ba ≠ bb); have hzbb0 : wbb.cell? ⟨bb, 0, none⟩ = some (.int .i64 0) := (blk_cell hbox 0).trans rfl; have hzbb1 : wbb.cell? ⟨bb, 1, none⟩ = some (.int .i64 0) := (blk_cell hbox 1).trans rfl; have hfbb0 := blk_frozen hbox 0; have hfbb1 := blk_frozen hbox 1; obtain ⟨z1, z2, z3⟩ := box_stored (wS := ((wbb.setCell ⟨bb, 0, none⟩ (.int .i64 (at_ l0 im).f0)).setCell ⟨bb, 1, none⟩ (.int .i64 (at_ l0 im).f1))) hbox rfl; have n3 := Aside0.mk (z3 w n1.out n2.out); have n4 := Aside0.mk z1; have q0 := Aside0.mk (z2 ba _ m0.out k0.out); clear HB z1 z2 z3 Bba k0; have HB := n3; have Gbb := n2; have Bbb := n4; clear n1 n2 n3 n4 hbox hb hg; have Bba := q0; have Nbabb := m0; clear q0 m0; clear hzba0 hzba1 hfba0 hfba1; clear rx ry; obtain ⟨rx, ry⟩ := rd_below HR0.out HB.out hj) | ((with_reducible refine gate_dst (N := 8) rfl ?_); refine box_event ?hg (N := 8) ?hd (cs := #[.int .i64 0, .int .i64 0]) (t := 32) ?hr ?_; (case hd => rfl); (case hg => rfl); (case hr => exact qq21); intro bc hg wbc hbox hb; have n1 := Aside0.mk (below_step HB.out hb); have n2 := Aside0.mk (qq78 : w.heap.size ≤ bc); have k0 := Aside0.mk (blk_below Bba.out hb); have m0 := Aside0.mk ((qq77 Bba.out) : ba ≠ bc); have k1 := Aside0.mk (blk_below Bbb.out hb); have m1 := Aside0.mk ((qq77 Bbb.out) : bb ≠ bc); have hzbc0 : wbc.cell? ⟨bc, 0, none⟩ = some (.int .i64 0) := (blk_cell hbox 0).trans rfl; have hzbc1 : wbc.cell? ⟨bc, 1, none⟩ = some (.int .i64 0) := (blk_cell hbox 1).trans rfl; have hfbc0 := blk_frozen hbox 0; have hfbc1 := blk_frozen hbox 1; obtain ⟨z1, z2, z3⟩ := box_stored (wS := ((wbc.setCell ⟨bc, 0, none⟩ (.int .i64 (at_ l0 j).f0)).setCell ⟨bc, 1, none⟩ (.int .i64 (at_ l0 j).f1))) hbox rfl; have n3 := Aside0.mk (z3 w n1.out n2.out); have n4 := Aside0.mk z1; have q0 := Aside0.mk (z2 ba _ m0.out k0.out); have q1 := Aside0.mk (z2 bb _ m1.out k1.out); clear HB z1 z2 z3 Bba k0 Bbb k1; have HB := n3; have Gbc := n2; have Bbc := n4; clear n1 n2 n3 n4 hbox hb hg; have Bba := q0; have Nbabc := m0; clear q0 m0; have Bbb := q1; have Nbbbc := m1; clear q1 m1; clear hzbb0 hzbb1 hfbb0 hfbb1; clear rx ry; obtain ⟨rx, ry⟩ := rd_below HR0.out HB.out hjm1) | ((with_reducible refine gate_dst (N := 9) rfl ?_); refine box_event ?hg (N := 9) ?hd (cs := #[.int .i64 0, .int .i64 0]) (t := 32) ?hr ?_; (case hd => rfl); (case hg => rfl); (case hr => exact qq21); intro bd hg wbd hbox hb; have n1 := Aside0.mk (below_step HB.out hb); have n2 := Aside0.mk (qq78 : w.heap.size ≤ bd); have k0 := Aside0.mk (blk_below Bba.out hb); have m0 := Aside0.mk ((qq77 Bba.out) : ba ≠ bd); have k1 := Aside0.mk (blk_below Bbb.out hb); have m1 := Aside0.mk ((qq77 Bbb.out) : bb ≠ bd); have k2 := Aside0.mk (blk_below Bbc.out hb); have m2 := Aside0.mk ((qq77 Bbc.out) : bc ≠ bd); have hzbd0 : wbd.cell? ⟨bd, 0, none⟩ = some (.int .i64 0) := (blk_cell hbox 0).trans rfl; have hzbd1 : wbd.cell? ⟨bd, 1, none⟩ = some (.int .i64 0) := (blk_cell hbox 1).trans rfl; have hfbd0 := blk_frozen hbox 0; have hfbd1 := blk_frozen hbox 1; obtain ⟨z1, z2, z3⟩ := box_stored (wS := ((wbd.setCell ⟨bd, 0, none⟩ (.int .i64 (at_ l0 jm).f0)).setCell ⟨bd, 1, none⟩ (.int .i64 (at_ l0 jm).f1))) hbox rfl; have n3 := Aside0.mk (z3 w n1.out n2.out); have n4 := Aside0.mk z1; have q0 := Aside0.mk (z2 ba _ m0.out k0.out); have q1 := Aside0.mk (z2 bb _ m1.out k1.out); have q2 := Aside0.mk (z2 bc _ m2.out k2.out); clear HB z1 z2 z3 Bba k0 Bbb k1 Bbc k2; have HB := n3; have Gbd := n2; have Bbd := n4; clear n1 n2 n3 n4 hbox hb hg; have Bba := q0; have Nbabd := m0; clear q0 m0; have Bbb := q1; have Nbbbd := m1; clear q1 m1; have Bbc := q2; have Nbcbd := m2; clear q2 m2; clear hzbc0 hzbc1 hfbc0 hfbc1; clear rx ry; have cba0 : ((wbd.setCell ⟨bd, 0, none⟩ (.int .i64 (at_ l0 jm).f0)).setCell ⟨bd, 1, none⟩ (.int .i64 (at_ l0 jm).f1)).cell? ⟨ba, 0, none⟩ = some (.int .i64 (at_ l0 i).f0) := (blk_cell Bba.out 0).trans rfl; have cba1 : ((wbd.setCell ⟨bd, 0, none⟩ (.int .i64 (at_ l0 jm).f0)).setCell ⟨bd, 1, none⟩ (.int .i64 (at_ l0 jm).f1)).cell? ⟨ba, 1, none⟩ = some (.int .i64 (at_ l0 i).f1) := (blk_cell Bba.out 1).trans rfl; have cbb0 : ((wbd.setCell ⟨bd, 0, none⟩ (.int .i64 (at_ l0 jm).f0)).setCell ⟨bd, 1, none⟩ (.int .i64 (at_ l0 jm).f1)).cell? ⟨bb, 0, none⟩ = some (.int .i64 (at_ l0 im).f0) := (blk_cell Bbb.out 0).trans rfl; have cbb1 : ((wbd.setCell ⟨bd, 0, none⟩ (.int .i64 (at_ l0 jm).f0)).setCell ⟨bd, 1, none⟩ (.int .i64 (at_ l0 jm).f1)).cell? ⟨bb, 1, none⟩ = some (.int .i64 (at_ l0 im).f1) := (blk_cell Bbb.out 1).trans rfl; have cbc0 : ((wbd.setCell ⟨bd, 0, none⟩ (.int .i64 (at_ l0 jm).f0)).setCell ⟨bd, 1, none⟩ (.int .i64 (at_ l0 jm).f1)).cell? ⟨bc, 0, none⟩ = some (.int .i64 (at_ l0 j).f0) := (blk_cell Bbc.out 0).trans rfl; have cbc1 : ((wbd.setCell ⟨bd, 0, none⟩ (.int .i64 (at_ l0 jm).f0)).setCell ⟨bd, 1, none⟩ (.int .i64 (at_ l0 jm).f1)).cell? ⟨bc, 1, none⟩ = some (.int .i64 (at_ l0 j).f1) := (blk_cell Bbc.out 1).trans rfl; have cbd0 : ((wbd.setCell ⟨bd, 0, none⟩ (.int .i64 (at_ l0 jm).f0)).setCell ⟨bd, 1, none⟩ (.int .i64 (at_ l0 jm).f1)).cell? ⟨bd, 0, none⟩ = some (.int .i64 (at_ l0 jm).f0) := (blk_cell Bbd.out 0).trans rfl; have cbd1 : ((wbd.setCell ⟨bd, 0, none⟩ (.int .i64 (at_ l0 jm).f0)).setCell ⟨bd, 1, none⟩ (.int .i64 (at_ l0 jm).f1)).cell? ⟨bd, 1, none⟩ = some (.int .i64 (at_ l0 jm).f1) := (blk_cell Bbd.out 1).trans rfl) | ((with_reducible refine gate_dst (N := 58) rfl ?_); refine Halted.out ?_))
          by_cases hc1 : j = i + 1
          · skip
            have hk1 : ((j : Int) == (i : Int) + 1) = true := by rw [hc1]; exact beq_self_eq_true _
            obtain ⟨e1, he1⟩ : ∃ b, sameP (at_ l0 j) (at_ l0 i) = b := ⟨_, rfl⟩
            obtain ⟨e2, he2⟩ : ∃ b, sameP (at_ l0 jm) (at_ l0 j) = b := ⟨_, rfl⟩
            obtain ⟨b1, hb1⟩ : ∃ b, onPt (at_ l0 i) (at_ l0 im) (at_ l0 jm) = b := ⟨_, rfl⟩
            obtain ⟨b2, hb2⟩ : ∃ b, onPt (at_ l0 j) (at_ l0 jm) (at_ l0 i) = b := ⟨_, rfl⟩
            have F1 := Aside0.mk ((on_f (pv_at hcv hi) (pv_at hcv him1) (pv_at hcv hjm1)).trans (congrArg some hb1))
            have F2 := Aside0.mk ((on_f (pv_at hcv hj) (pv_at hcv hjm1) (pv_at hcv hi)).trans (congrArg some hb2))
            have RS1 := same_run he1
            have RS2 := same_run he2
            have HBAD : badAt l0 i j = (e1 || e2 || b1 || b2) := by unfold badAt nxt; rw [if_pos hc1, hjm, him, he1, he2, hb1, hb2]
            have HC1 := Aside0.mk hc1
            have HCV := Aside0.mk hcv
            clear hcv him hjm hb1 hb2 hc1 he1 he2
            cases e1
            · cases e2
              · cases b1
                · cases b2
                  · refine Halted.intro ?_; go_wp2_with (first | ((with_reducible refine gate_dst (N := 85) rfl ?_); rw [HTJ.out]) | (go_at_call 50; with_reducible refine (spec_l2On.calls (at_ l0 i).f0 (at_ l0 i).f1 (at_ l0 im).f0 (at_ l0 im).f1 (at_ l0 jm).f0 (at_ l0 jm).f1 _ _ F1.out).mono ?_; rintro e wz ⟨rfl, hb⟩; have n1 := Aside0.mk (below_step HB.out hb); have kba := Aside0.mk (blk_below Bba.out hb); have kbb := Aside0.mk (blk_below Bbb.out hb); have kbc := Aside0.mk (blk_below Bbc.out hb); have kbd := Aside0.mk (blk_below Bbd.out hb); clear HB Bba Bbb Bbc Bbd cba0 cba1 cbb0 cbb1 cbc0 cbc1 cbd0 cbd1; have HB := n1; clear n1 hb; have Bba := kba; clear kba; have cba0 : wz.cell? ⟨ba, 0, none⟩ = some (.int .i64 (at_ l0 i).f0) := (blk_cell Bba.out 0).trans rfl; have cba1 : wz.cell? ⟨ba, 1, none⟩ = some (.int .i64 (at_ l0 i).f1) := (blk_cell Bba.out 1).trans rfl; have Bbb := kbb; clear kbb; have cbb0 : wz.cell? ⟨bb, 0, none⟩ = some (.int .i64 (at_ l0 im).f0) := (blk_cell Bbb.out 0).trans rfl; have cbb1 : wz.cell? ⟨bb, 1, none⟩ = some (.int .i64 (at_ l0 im).f1) := (blk_cell Bbb.out 1).trans rfl; have Bbc := kbc; clear kbc; have cbc0 : wz.cell? ⟨bc, 0, none⟩ = some (.int .i64 (at_ l0 j).f0) := (blk_cell Bbc.out 0).trans rfl; have cbc1 : wz.cell? ⟨bc, 1, none⟩ = some (.int .i64 (at_ l0 j).f1) := (blk_cell Bbc.out 1).trans rfl; have Bbd := kbd; clear kbd; have cbd0 : wz.cell? ⟨bd, 0, none⟩ = some (.int .i64 (at_ l0 jm).f0) := (blk_cell Bbd.out 0).trans rfl; have cbd1 : wz.cell? ⟨bd, 1, none⟩ = some (.int .i64 (at_ l0 jm).f1) := (blk_cell Bbd.out 1).trans rfl) | (go_at_call 50; with_reducible refine (spec_l2On.calls (at_ l0 j).f0 (at_ l0 j).f1 (at_ l0 jm).f0 (at_ l0 jm).f1 (at_ l0 i).f0 (at_ l0 i).f1 _ _ F2.out).mono ?_; rintro e wy ⟨rfl, hb⟩; have n1 := Aside0.mk (below_step HB.out hb); have kba := Aside0.mk (blk_below Bba.out hb); have kbb := Aside0.mk (blk_below Bbb.out hb); have kbc := Aside0.mk (blk_below Bbc.out hb); have kbd := Aside0.mk (blk_below Bbd.out hb); clear HB Bba Bbb Bbc Bbd cba0 cba1 cbb0 cbb1 cbc0 cbc1 cbd0 cbd1; have HB := n1; clear n1 hb; have Bba := kba; clear kba; have cba0 : wy.cell? ⟨ba, 0, none⟩ = some (.int .i64 (at_ l0 i).f0) := (blk_cell Bba.out 0).trans rfl; have cba1 : wy.cell? ⟨ba, 1, none⟩ = some (.int .i64 (at_ l0 i).f1) := (blk_cell Bba.out 1).trans rfl; have Bbb := kbb; clear kbb; have cbb0 : wy.cell? ⟨bb, 0, none⟩ = some (.int .i64 (at_ l0 im).f0) := (blk_cell Bbb.out 0).trans rfl; have cbb1 : wy.cell? ⟨bb, 1, none⟩ = some (.int .i64 (at_ l0 im).f1) := (blk_cell Bbb.out 1).trans rfl; have Bbc := kbc; clear kbc; have cbc0 : wy.cell? ⟨bc, 0, none⟩ = some (.int .i64 (at_ l0 j).f0) := (blk_cell Bbc.out 0).trans rfl; have cbc1 : wy.cell? ⟨bc, 1, none⟩ = some (.int .i64 (at_ l0 j).f1) := (blk_cell Bbc.out 1).trans rfl; have Bbd := kbd; clear kbd; have cbd0 : wy.cell? ⟨bd, 0, none⟩ = some (.int .i64 (at_ l0 jm).f0) := (blk_cell Bbd.out 0).trans rfl; have cbd1 : wy.cell? ⟨bd, 1, none⟩ = some (.int .i64 (at_ l0 jm).f1) := (blk_cell Bbd.out 1).trans rfl))
                    go_roundg k1
                    case measure => omega
                    case rel => exact ⟨j + 1, by simp, ⟨by omega, by omega, by omega⟩, ⟨fun k' h1 h2 => by rcases Nat.lt_or_eq_of_le (Nat.le_of_lt_succ h1) with h | rfl; exact HM.out k' h h2; exact HBAD⟩, ⟨by exact HB.out⟩⟩
                  · refine Halted.intro ?_; go_wp2_with (first | ((with_reducible refine gate_dst (N := 85) rfl ?_); rw [HTJ.out]) | (go_at_call 50; with_reducible refine (spec_l2On.calls (at_ l0 i).f0 (at_ l0 i).f1 (at_ l0 im).f0 (at_ l0 im).f1 (at_ l0 jm).f0 (at_ l0 jm).f1 _ _ F1.out).mono ?_; rintro e wz ⟨rfl, hb⟩; have n1 := Aside0.mk (below_step HB.out hb); have kba := Aside0.mk (blk_below Bba.out hb); have kbb := Aside0.mk (blk_below Bbb.out hb); have kbc := Aside0.mk (blk_below Bbc.out hb); have kbd := Aside0.mk (blk_below Bbd.out hb); clear HB Bba Bbb Bbc Bbd cba0 cba1 cbb0 cbb1 cbc0 cbc1 cbd0 cbd1; have HB := n1; clear n1 hb; have Bba := kba; clear kba; have cba0 : wz.cell? ⟨ba, 0, none⟩ = some (.int .i64 (at_ l0 i).f0) := (blk_cell Bba.out 0).trans rfl; have cba1 : wz.cell? ⟨ba, 1, none⟩ = some (.int .i64 (at_ l0 i).f1) := (blk_cell Bba.out 1).trans rfl; have Bbb := kbb; clear kbb; have cbb0 : wz.cell? ⟨bb, 0, none⟩ = some (.int .i64 (at_ l0 im).f0) := (blk_cell Bbb.out 0).trans rfl; have cbb1 : wz.cell? ⟨bb, 1, none⟩ = some (.int .i64 (at_ l0 im).f1) := (blk_cell Bbb.out 1).trans rfl; have Bbc := kbc; clear kbc; have cbc0 : wz.cell? ⟨bc, 0, none⟩ = some (.int .i64 (at_ l0 j).f0) := (blk_cell Bbc.out 0).trans rfl; have cbc1 : wz.cell? ⟨bc, 1, none⟩ = some (.int .i64 (at_ l0 j).f1) := (blk_cell Bbc.out 1).trans rfl; have Bbd := kbd; clear kbd; have cbd0 : wz.cell? ⟨bd, 0, none⟩ = some (.int .i64 (at_ l0 jm).f0) := (blk_cell Bbd.out 0).trans rfl; have cbd1 : wz.cell? ⟨bd, 1, none⟩ = some (.int .i64 (at_ l0 jm).f1) := (blk_cell Bbd.out 1).trans rfl) | (go_at_call 50; with_reducible refine (spec_l2On.calls (at_ l0 j).f0 (at_ l0 j).f1 (at_ l0 jm).f0 (at_ l0 jm).f1 (at_ l0 i).f0 (at_ l0 i).f1 _ _ F2.out).mono ?_; rintro e wy ⟨rfl, hb⟩; have n1 := Aside0.mk (below_step HB.out hb); have kba := Aside0.mk (blk_below Bba.out hb); have kbb := Aside0.mk (blk_below Bbb.out hb); have kbc := Aside0.mk (blk_below Bbc.out hb); have kbd := Aside0.mk (blk_below Bbd.out hb); clear HB Bba Bbb Bbc Bbd cba0 cba1 cbb0 cbb1 cbc0 cbc1 cbd0 cbd1; have HB := n1; clear n1 hb; have Bba := kba; clear kba; have cba0 : wy.cell? ⟨ba, 0, none⟩ = some (.int .i64 (at_ l0 i).f0) := (blk_cell Bba.out 0).trans rfl; have cba1 : wy.cell? ⟨ba, 1, none⟩ = some (.int .i64 (at_ l0 i).f1) := (blk_cell Bba.out 1).trans rfl; have Bbb := kbb; clear kbb; have cbb0 : wy.cell? ⟨bb, 0, none⟩ = some (.int .i64 (at_ l0 im).f0) := (blk_cell Bbb.out 0).trans rfl; have cbb1 : wy.cell? ⟨bb, 1, none⟩ = some (.int .i64 (at_ l0 im).f1) := (blk_cell Bbb.out 1).trans rfl; have Bbc := kbc; clear kbc; have cbc0 : wy.cell? ⟨bc, 0, none⟩ = some (.int .i64 (at_ l0 j).f0) := (blk_cell Bbc.out 0).trans rfl; have cbc1 : wy.cell? ⟨bc, 1, none⟩ = some (.int .i64 (at_ l0 j).f1) := (blk_cell Bbc.out 1).trans rfl; have Bbd := kbd; clear kbd; have cbd0 : wy.cell? ⟨bd, 0, none⟩ = some (.int .i64 (at_ l0 jm).f0) := (blk_cell Bbd.out 0).trans rfl; have cbd1 : wy.cell? ⟨bd, 1, none⟩ = some (.int .i64 (at_ l0 jm).f1) := (blk_cell Bbd.out 1).trans rfl))
                    go_ret
                    exact ⟨qq59, by exact HB.out⟩
                · refine Halted.intro ?_; go_wp2_with (first | ((with_reducible refine gate_dst (N := 85) rfl ?_); rw [HTJ.out]) | (go_at_call 50; with_reducible refine (spec_l2On.calls (at_ l0 i).f0 (at_ l0 i).f1 (at_ l0 im).f0 (at_ l0 im).f1 (at_ l0 jm).f0 (at_ l0 jm).f1 _ _ F1.out).mono ?_; rintro e wz ⟨rfl, hb⟩; have n1 := Aside0.mk (below_step HB.out hb); have kba := Aside0.mk (blk_below Bba.out hb); have kbb := Aside0.mk (blk_below Bbb.out hb); have kbc := Aside0.mk (blk_below Bbc.out hb); have kbd := Aside0.mk (blk_below Bbd.out hb); clear HB Bba Bbb Bbc Bbd cba0 cba1 cbb0 cbb1 cbc0 cbc1 cbd0 cbd1; have HB := n1; clear n1 hb; have Bba := kba; clear kba; have cba0 : wz.cell? ⟨ba, 0, none⟩ = some (.int .i64 (at_ l0 i).f0) := (blk_cell Bba.out 0).trans rfl; have cba1 : wz.cell? ⟨ba, 1, none⟩ = some (.int .i64 (at_ l0 i).f1) := (blk_cell Bba.out 1).trans rfl; have Bbb := kbb; clear kbb; have cbb0 : wz.cell? ⟨bb, 0, none⟩ = some (.int .i64 (at_ l0 im).f0) := (blk_cell Bbb.out 0).trans rfl; have cbb1 : wz.cell? ⟨bb, 1, none⟩ = some (.int .i64 (at_ l0 im).f1) := (blk_cell Bbb.out 1).trans rfl; have Bbc := kbc; clear kbc; have cbc0 : wz.cell? ⟨bc, 0, none⟩ = some (.int .i64 (at_ l0 j).f0) := (blk_cell Bbc.out 0).trans rfl; have cbc1 : wz.cell? ⟨bc, 1, none⟩ = some (.int .i64 (at_ l0 j).f1) := (blk_cell Bbc.out 1).trans rfl; have Bbd := kbd; clear kbd; have cbd0 : wz.cell? ⟨bd, 0, none⟩ = some (.int .i64 (at_ l0 jm).f0) := (blk_cell Bbd.out 0).trans rfl; have cbd1 : wz.cell? ⟨bd, 1, none⟩ = some (.int .i64 (at_ l0 jm).f1) := (blk_cell Bbd.out 1).trans rfl))
                  go_ret
                  exact ⟨qq59, by exact HB.out⟩
              · refine Halted.intro ?_; go_wp2_with (first | ((with_reducible refine gate_dst (N := 85) rfl ?_); rw [HTJ.out]))
                go_ret
                exact ⟨qq59, by exact HB.out⟩
            · refine Halted.intro ?_; go_wp2_with (first | ((with_reducible refine gate_dst (N := 85) rfl ?_); rw [HTJ.out]))
              go_ret
              exact ⟨qq59, by exact HB.out⟩
          by_cases hc2 : jm = i
          · skip
            have hk0 : ¬ (j : Int) = (i : Int) + 1 := fun h => hc1 (Int.ofNat.inj h)
            have hk1 : ((j : Int) == (i : Int) + 1) = false := beq_eq_false_iff_ne.mpr hk0
            have hk2 : ((jm : Int) == (i : Int)) = true := by rw [hc2]; exact beq_self_eq_true _
            obtain ⟨b1, hb1⟩ : ∃ b, onPt (at_ l0 j) (at_ l0 jm) (at_ l0 im) = b := ⟨_, rfl⟩
            obtain ⟨b2, hb2⟩ : ∃ b, onPt (at_ l0 i) (at_ l0 im) (at_ l0 j) = b := ⟨_, rfl⟩
            have F1 := Aside0.mk ((on_f (pv_at hcv hj) (pv_at hcv hjm1) (pv_at hcv him1)).trans (congrArg some hb1))
            have F2 := Aside0.mk ((on_f (pv_at hcv hi) (pv_at hcv him1) (pv_at hcv hj)).trans (congrArg some hb2))
            have HBAD : badAt l0 i j = (b1 || b2) := by unfold badAt nxt; rw [if_neg hc1, hjm, if_pos hc2, him, hb1, hb2]
            have HCV := Aside0.mk hcv
            clear hcv him hjm hb1 hb2 hc2
            cases b1
            · cases b2
              · refine Halted.intro ?_; go_wp2_with (first | ((with_reducible refine gate_dst (N := 85) rfl ?_); rw [HTJ.out]) | (go_at_call 50; with_reducible refine (spec_l2On.calls (at_ l0 j).f0 (at_ l0 j).f1 (at_ l0 jm).f0 (at_ l0 jm).f1 (at_ l0 im).f0 (at_ l0 im).f1 _ _ F1.out).mono ?_; rintro e wz ⟨rfl, hb⟩; have n1 := Aside0.mk (below_step HB.out hb); have kba := Aside0.mk (blk_below Bba.out hb); have kbb := Aside0.mk (blk_below Bbb.out hb); have kbc := Aside0.mk (blk_below Bbc.out hb); have kbd := Aside0.mk (blk_below Bbd.out hb); clear HB Bba Bbb Bbc Bbd cba0 cba1 cbb0 cbb1 cbc0 cbc1 cbd0 cbd1; have HB := n1; clear n1 hb; have Bba := kba; clear kba; have cba0 : wz.cell? ⟨ba, 0, none⟩ = some (.int .i64 (at_ l0 i).f0) := (blk_cell Bba.out 0).trans rfl; have cba1 : wz.cell? ⟨ba, 1, none⟩ = some (.int .i64 (at_ l0 i).f1) := (blk_cell Bba.out 1).trans rfl; have Bbb := kbb; clear kbb; have cbb0 : wz.cell? ⟨bb, 0, none⟩ = some (.int .i64 (at_ l0 im).f0) := (blk_cell Bbb.out 0).trans rfl; have cbb1 : wz.cell? ⟨bb, 1, none⟩ = some (.int .i64 (at_ l0 im).f1) := (blk_cell Bbb.out 1).trans rfl; have Bbc := kbc; clear kbc; have cbc0 : wz.cell? ⟨bc, 0, none⟩ = some (.int .i64 (at_ l0 j).f0) := (blk_cell Bbc.out 0).trans rfl; have cbc1 : wz.cell? ⟨bc, 1, none⟩ = some (.int .i64 (at_ l0 j).f1) := (blk_cell Bbc.out 1).trans rfl; have Bbd := kbd; clear kbd; have cbd0 : wz.cell? ⟨bd, 0, none⟩ = some (.int .i64 (at_ l0 jm).f0) := (blk_cell Bbd.out 0).trans rfl; have cbd1 : wz.cell? ⟨bd, 1, none⟩ = some (.int .i64 (at_ l0 jm).f1) := (blk_cell Bbd.out 1).trans rfl) | (go_at_call 50; with_reducible refine (spec_l2On.calls (at_ l0 i).f0 (at_ l0 i).f1 (at_ l0 im).f0 (at_ l0 im).f1 (at_ l0 j).f0 (at_ l0 j).f1 _ _ F2.out).mono ?_; rintro e wy ⟨rfl, hb⟩; have n1 := Aside0.mk (below_step HB.out hb); have kba := Aside0.mk (blk_below Bba.out hb); have kbb := Aside0.mk (blk_below Bbb.out hb); have kbc := Aside0.mk (blk_below Bbc.out hb); have kbd := Aside0.mk (blk_below Bbd.out hb); clear HB Bba Bbb Bbc Bbd cba0 cba1 cbb0 cbb1 cbc0 cbc1 cbd0 cbd1; have HB := n1; clear n1 hb; have Bba := kba; clear kba; have cba0 : wy.cell? ⟨ba, 0, none⟩ = some (.int .i64 (at_ l0 i).f0) := (blk_cell Bba.out 0).trans rfl; have cba1 : wy.cell? ⟨ba, 1, none⟩ = some (.int .i64 (at_ l0 i).f1) := (blk_cell Bba.out 1).trans rfl; have Bbb := kbb; clear kbb; have cbb0 : wy.cell? ⟨bb, 0, none⟩ = some (.int .i64 (at_ l0 im).f0) := (blk_cell Bbb.out 0).trans rfl; have cbb1 : wy.cell? ⟨bb, 1, none⟩ = some (.int .i64 (at_ l0 im).f1) := (blk_cell Bbb.out 1).trans rfl; have Bbc := kbc; clear kbc; have cbc0 : wy.cell? ⟨bc, 0, none⟩ = some (.int .i64 (at_ l0 j).f0) := (blk_cell Bbc.out 0).trans rfl; have cbc1 : wy.cell? ⟨bc, 1, none⟩ = some (.int .i64 (at_ l0 j).f1) := (blk_cell Bbc.out 1).trans rfl; have Bbd := kbd; clear kbd; have cbd0 : wy.cell? ⟨bd, 0, none⟩ = some (.int .i64 (at_ l0 jm).f0) := (blk_cell Bbd.out 0).trans rfl; have cbd1 : wy.cell? ⟨bd, 1, none⟩ = some (.int .i64 (at_ l0 jm).f1) := (blk_cell Bbd.out 1).trans rfl))
                go_roundg k1
                case measure => omega
                case rel => exact ⟨j + 1, by simp, ⟨by omega, by omega, by omega⟩, ⟨fun k' h1 h2 => by rcases Nat.lt_or_eq_of_le (Nat.le_of_lt_succ h1) with h | rfl; exact HM.out k' h h2; exact HBAD⟩, ⟨by exact HB.out⟩⟩
              · refine Halted.intro ?_; go_wp2_with (first | ((with_reducible refine gate_dst (N := 85) rfl ?_); rw [HTJ.out]) | (go_at_call 50; with_reducible refine (spec_l2On.calls (at_ l0 j).f0 (at_ l0 j).f1 (at_ l0 jm).f0 (at_ l0 jm).f1 (at_ l0 im).f0 (at_ l0 im).f1 _ _ F1.out).mono ?_; rintro e wz ⟨rfl, hb⟩; have n1 := Aside0.mk (below_step HB.out hb); have kba := Aside0.mk (blk_below Bba.out hb); have kbb := Aside0.mk (blk_below Bbb.out hb); have kbc := Aside0.mk (blk_below Bbc.out hb); have kbd := Aside0.mk (blk_below Bbd.out hb); clear HB Bba Bbb Bbc Bbd cba0 cba1 cbb0 cbb1 cbc0 cbc1 cbd0 cbd1; have HB := n1; clear n1 hb; have Bba := kba; clear kba; have cba0 : wz.cell? ⟨ba, 0, none⟩ = some (.int .i64 (at_ l0 i).f0) := (blk_cell Bba.out 0).trans rfl; have cba1 : wz.cell? ⟨ba, 1, none⟩ = some (.int .i64 (at_ l0 i).f1) := (blk_cell Bba.out 1).trans rfl; have Bbb := kbb; clear kbb; have cbb0 : wz.cell? ⟨bb, 0, none⟩ = some (.int .i64 (at_ l0 im).f0) := (blk_cell Bbb.out 0).trans rfl; have cbb1 : wz.cell? ⟨bb, 1, none⟩ = some (.int .i64 (at_ l0 im).f1) := (blk_cell Bbb.out 1).trans rfl; have Bbc := kbc; clear kbc; have cbc0 : wz.cell? ⟨bc, 0, none⟩ = some (.int .i64 (at_ l0 j).f0) := (blk_cell Bbc.out 0).trans rfl; have cbc1 : wz.cell? ⟨bc, 1, none⟩ = some (.int .i64 (at_ l0 j).f1) := (blk_cell Bbc.out 1).trans rfl; have Bbd := kbd; clear kbd; have cbd0 : wz.cell? ⟨bd, 0, none⟩ = some (.int .i64 (at_ l0 jm).f0) := (blk_cell Bbd.out 0).trans rfl; have cbd1 : wz.cell? ⟨bd, 1, none⟩ = some (.int .i64 (at_ l0 jm).f1) := (blk_cell Bbd.out 1).trans rfl) | (go_at_call 50; with_reducible refine (spec_l2On.calls (at_ l0 i).f0 (at_ l0 i).f1 (at_ l0 im).f0 (at_ l0 im).f1 (at_ l0 j).f0 (at_ l0 j).f1 _ _ F2.out).mono ?_; rintro e wy ⟨rfl, hb⟩; have n1 := Aside0.mk (below_step HB.out hb); have kba := Aside0.mk (blk_below Bba.out hb); have kbb := Aside0.mk (blk_below Bbb.out hb); have kbc := Aside0.mk (blk_below Bbc.out hb); have kbd := Aside0.mk (blk_below Bbd.out hb); clear HB Bba Bbb Bbc Bbd cba0 cba1 cbb0 cbb1 cbc0 cbc1 cbd0 cbd1; have HB := n1; clear n1 hb; have Bba := kba; clear kba; have cba0 : wy.cell? ⟨ba, 0, none⟩ = some (.int .i64 (at_ l0 i).f0) := (blk_cell Bba.out 0).trans rfl; have cba1 : wy.cell? ⟨ba, 1, none⟩ = some (.int .i64 (at_ l0 i).f1) := (blk_cell Bba.out 1).trans rfl; have Bbb := kbb; clear kbb; have cbb0 : wy.cell? ⟨bb, 0, none⟩ = some (.int .i64 (at_ l0 im).f0) := (blk_cell Bbb.out 0).trans rfl; have cbb1 : wy.cell? ⟨bb, 1, none⟩ = some (.int .i64 (at_ l0 im).f1) := (blk_cell Bbb.out 1).trans rfl; have Bbc := kbc; clear kbc; have cbc0 : wy.cell? ⟨bc, 0, none⟩ = some (.int .i64 (at_ l0 j).f0) := (blk_cell Bbc.out 0).trans rfl; have cbc1 : wy.cell? ⟨bc, 1, none⟩ = some (.int .i64 (at_ l0 j).f1) := (blk_cell Bbc.out 1).trans rfl; have Bbd := kbd; clear kbd; have cbd0 : wy.cell? ⟨bd, 0, none⟩ = some (.int .i64 (at_ l0 jm).f0) := (blk_cell Bbd.out 0).trans rfl; have cbd1 : wy.cell? ⟨bd, 1, none⟩ = some (.int .i64 (at_ l0 jm).f1) := (blk_cell Bbd.out 1).trans rfl))
                go_ret
                exact ⟨qq59, by exact HB.out⟩
            · refine Halted.intro ?_; go_wp2_with (first | ((with_reducible refine gate_dst (N := 85) rfl ?_); rw [HTJ.out]) | (go_at_call 50; with_reducible refine (spec_l2On.calls (at_ l0 j).f0 (at_ l0 j).f1 (at_ l0 jm).f0 (at_ l0 jm).f1 (at_ l0 im).f0 (at_ l0 im).f1 _ _ F1.out).mono ?_; rintro e wz ⟨rfl, hb⟩; have n1 := Aside0.mk (below_step HB.out hb); have kba := Aside0.mk (blk_below Bba.out hb); have kbb := Aside0.mk (blk_below Bbb.out hb); have kbc := Aside0.mk (blk_below Bbc.out hb); have kbd := Aside0.mk (blk_below Bbd.out hb); clear HB Bba Bbb Bbc Bbd cba0 cba1 cbb0 cbb1 cbc0 cbc1 cbd0 cbd1; have HB := n1; clear n1 hb; have Bba := kba; clear kba; have cba0 : wz.cell? ⟨ba, 0, none⟩ = some (.int .i64 (at_ l0 i).f0) := (blk_cell Bba.out 0).trans rfl; have cba1 : wz.cell? ⟨ba, 1, none⟩ = some (.int .i64 (at_ l0 i).f1) := (blk_cell Bba.out 1).trans rfl; have Bbb := kbb; clear kbb; have cbb0 : wz.cell? ⟨bb, 0, none⟩ = some (.int .i64 (at_ l0 im).f0) := (blk_cell Bbb.out 0).trans rfl; have cbb1 : wz.cell? ⟨bb, 1, none⟩ = some (.int .i64 (at_ l0 im).f1) := (blk_cell Bbb.out 1).trans rfl; have Bbc := kbc; clear kbc; have cbc0 : wz.cell? ⟨bc, 0, none⟩ = some (.int .i64 (at_ l0 j).f0) := (blk_cell Bbc.out 0).trans rfl; have cbc1 : wz.cell? ⟨bc, 1, none⟩ = some (.int .i64 (at_ l0 j).f1) := (blk_cell Bbc.out 1).trans rfl; have Bbd := kbd; clear kbd; have cbd0 : wz.cell? ⟨bd, 0, none⟩ = some (.int .i64 (at_ l0 jm).f0) := (blk_cell Bbd.out 0).trans rfl; have cbd1 : wz.cell? ⟨bd, 1, none⟩ = some (.int .i64 (at_ l0 jm).f1) := (blk_cell Bbd.out 1).trans rfl))
              go_ret
              exact ⟨qq59, by exact HB.out⟩
          have hk0 : ¬ (j : Int) = (i : Int) + 1 := fun h => hc1 (Int.ofNat.inj h)
          have hk1 : ((j : Int) == (i : Int) + 1) = false := beq_eq_false_iff_ne.mpr hk0
          have hk3 : ¬ (jm : Int) = (i : Int) := fun h => hc2 (Int.ofNat.inj h)
          have hk2 : ((jm : Int) == (i : Int)) = false := beq_eq_false_iff_ne.mpr hk3
          · skip
            obtain ⟨b, hb⟩ : ∃ b, meetPt (at_ l0 i) (at_ l0 im) (at_ l0 j) (at_ l0 jm) = b := ⟨_, rfl⟩
            have F := Aside0.mk ((meet_f (pv_at hcv hi) (pv_at hcv him1) (pv_at hcv hj) (pv_at hcv hjm1)).trans (congrArg some hb))
            have HBAD : badAt l0 i j = b := by unfold badAt nxt; rw [if_neg hc1, hjm, if_neg hc2, him, hb]
            have HCV := Aside0.mk hcv
            clear hcv him hjm hb
            cases b
            · refine Halted.intro ?_; go_wp2_with (first | ((with_reducible refine gate_dst (N := 85) rfl ?_); rw [HTJ.out]) | (go_at_call 51; with_reducible refine (spec_l31Meet.calls 1 (at_ l0 i).f0 (at_ l0 i).f1 (at_ l0 im).f0 (at_ l0 im).f1 (at_ l0 j).f0 (at_ l0 j).f1 (at_ l0 jm).f0 (at_ l0 jm).f1 _ _ F.out).mono ?_; rintro e wz ⟨rfl, hb⟩; have n1 := Aside0.mk (below_step HB.out hb); have kba := Aside0.mk (blk_below Bba.out hb); have kbb := Aside0.mk (blk_below Bbb.out hb); have kbc := Aside0.mk (blk_below Bbc.out hb); have kbd := Aside0.mk (blk_below Bbd.out hb); clear HB Bba Bbb Bbc Bbd cba0 cba1 cbb0 cbb1 cbc0 cbc1 cbd0 cbd1; have HB := n1; clear n1 hb; have Bba := kba; clear kba; have cba0 : wz.cell? ⟨ba, 0, none⟩ = some (.int .i64 (at_ l0 i).f0) := (blk_cell Bba.out 0).trans rfl; have cba1 : wz.cell? ⟨ba, 1, none⟩ = some (.int .i64 (at_ l0 i).f1) := (blk_cell Bba.out 1).trans rfl; have Bbb := kbb; clear kbb; have cbb0 : wz.cell? ⟨bb, 0, none⟩ = some (.int .i64 (at_ l0 im).f0) := (blk_cell Bbb.out 0).trans rfl; have cbb1 : wz.cell? ⟨bb, 1, none⟩ = some (.int .i64 (at_ l0 im).f1) := (blk_cell Bbb.out 1).trans rfl; have Bbc := kbc; clear kbc; have cbc0 : wz.cell? ⟨bc, 0, none⟩ = some (.int .i64 (at_ l0 j).f0) := (blk_cell Bbc.out 0).trans rfl; have cbc1 : wz.cell? ⟨bc, 1, none⟩ = some (.int .i64 (at_ l0 j).f1) := (blk_cell Bbc.out 1).trans rfl; have Bbd := kbd; clear kbd; have cbd0 : wz.cell? ⟨bd, 0, none⟩ = some (.int .i64 (at_ l0 jm).f0) := (blk_cell Bbd.out 0).trans rfl; have cbd1 : wz.cell? ⟨bd, 1, none⟩ = some (.int .i64 (at_ l0 jm).f1) := (blk_cell Bbd.out 1).trans rfl))
              go_roundg k1
              case measure => omega
              case rel => exact ⟨j + 1, by simp, ⟨by omega, by omega, by omega⟩, ⟨fun k' h1 h2 => by rcases Nat.lt_or_eq_of_le (Nat.le_of_lt_succ h1) with h | rfl; exact HM.out k' h h2; exact HBAD⟩, ⟨by exact HB.out⟩⟩
            · refine Halted.intro ?_; go_wp2_with (first | ((with_reducible refine gate_dst (N := 85) rfl ?_); rw [HTJ.out]) | (go_at_call 51; with_reducible refine (spec_l31Meet.calls 1 (at_ l0 i).f0 (at_ l0 i).f1 (at_ l0 im).f0 (at_ l0 im).f1 (at_ l0 j).f0 (at_ l0 j).f1 (at_ l0 jm).f0 (at_ l0 jm).f1 _ _ F.out).mono ?_; rintro e wz ⟨rfl, hb⟩; have n1 := Aside0.mk (below_step HB.out hb); have kba := Aside0.mk (blk_below Bba.out hb); have kbb := Aside0.mk (blk_below Bbb.out hb); have kbc := Aside0.mk (blk_below Bbc.out hb); have kbd := Aside0.mk (blk_below Bbd.out hb); clear HB Bba Bbb Bbc Bbd cba0 cba1 cbb0 cbb1 cbc0 cbc1 cbd0 cbd1; have HB := n1; clear n1 hb; have Bba := kba; clear kba; have cba0 : wz.cell? ⟨ba, 0, none⟩ = some (.int .i64 (at_ l0 i).f0) := (blk_cell Bba.out 0).trans rfl; have cba1 : wz.cell? ⟨ba, 1, none⟩ = some (.int .i64 (at_ l0 i).f1) := (blk_cell Bba.out 1).trans rfl; have Bbb := kbb; clear kbb; have cbb0 : wz.cell? ⟨bb, 0, none⟩ = some (.int .i64 (at_ l0 im).f0) := (blk_cell Bbb.out 0).trans rfl; have cbb1 : wz.cell? ⟨bb, 1, none⟩ = some (.int .i64 (at_ l0 im).f1) := (blk_cell Bbb.out 1).trans rfl; have Bbc := kbc; clear kbc; have cbc0 : wz.cell? ⟨bc, 0, none⟩ = some (.int .i64 (at_ l0 j).f0) := (blk_cell Bbc.out 0).trans rfl; have cbc1 : wz.cell? ⟨bc, 1, none⟩ = some (.int .i64 (at_ l0 j).f1) := (blk_cell Bbc.out 1).trans rfl; have Bbd := kbd; clear kbd; have cbd0 : wz.cell? ⟨bd, 0, none⟩ = some (.int .i64 (at_ l0 jm).f0) := (blk_cell Bbd.out 0).trans rfl; have cbd1 : wz.cell? ⟨bd, 1, none⟩ = some (.int .i64 (at_ l0 jm).f1) := (blk_cell Bbd.out 1).trans rfl))
              go_ret
              exact ⟨qq59, by exact HB.out⟩
        · have hd2 : decide ((j : Int) < (l0.length : Int)) = false := decide_eq_false (by omega)
          go_wp2
          go_roundg ko
          case measure => omega
          case rel => exact ⟨i + 1, by simp, ⟨by omega, by omega⟩, ⟨fun i' h1 k' h2 h3 => by rcases Nat.lt_or_eq_of_le (Nat.le_of_lt_succ h1) with h | rfl; exact HN.out i' h k' h2 h3; exact HM.out k' (by omega) h3⟩, ⟨by exact HB.out⟩⟩
    · have hd : decide ((i : Int) < (l0.length : Int)) = false := decide_eq_false (by omega)
      go_wp2
      go_ret
      have hp : pairsB l0 = true := decide_eq_true fun i' h1 k' h2 h3 => HN.out i' (by omega) k' h2 h3
      exact ⟨by rw [hp]; rfl, by exact HB.out⟩
set_option maxRecDepth 100000 in
set_option maxHeartbeats 4000000 in
theorem specValid_no (A0 : Option Addr) (c0 : Nat) (l0 : List Pt) (w : World) (hr0 : Kd.C k32 w A0 l0.length l0) (hc0 : l0.length ≤ c0) (hl : l0.length ≤ 1048576) (hcv : Pure.cvB l0 = false) :
    Calls Try.prog 19 #[.slice A0 l0.length c0] w fun e w' => e = .returned (.bool false) ∧ Below w.heap.size w w' := by
  have hpts := (Pure.l31Points_eq 1048577 l0 (by omega) (by omega)).trans (congrArg some hcv)
  have HR0 := Aside0.mk hr0
  have HC0 := Aside0.mk hc0
  have HX := Aside0.mk hpts
  clear hr0 hc0 hpts
  go_enter Try.func19, Try.ntmps19
  go_wp2_with (go_at_call 45; refine (spec_l31Points.calls 1048577 _ _ l0 false _ HR0.out HC0.out HX.out).mono ?_; rintro e w1 ⟨rfl, hb⟩; have HB := Aside0.mk hb; clear hb)
  go_ret
  exact ⟨rfl, by exact HB.out⟩
end Go.Proofs.Ytgdhgncdpmalcaa.Ring
namespace Go.Proofs.Ytgdhgncdpmalcaa.Ring
open Go.RowKit Go.Proofs.Ytgdhgncdpmalcaa.Q Go.Proofs.YtgdhgncdpmalcaaW.PrintWords Go.Proofs.YtgdhgncdpmalcaaW.PrintLast Go.Proofs.YtgdhgncdpmalcaaW.PrintMore
theorem onPt_self {p q : Pt} (hp : PVP p) (hq : PVP q) : onPt p q p = true := by
  unfold onPt Pure.onR
  refine decide_eq_true ⟨hp, hq, hp, ?_⟩
  unfold Pure.onP Pure.crs
  refine ⟨by simp, by omega, by omega, by omega, by omega⟩
theorem sameP_iff {p q : Pt} : sameP p q = true ↔ p.f0 = q.f0 ∧ p.f1 = q.f1 := by
  unfold sameP; rw [Bool.and_eq_true, beq_iff_eq, beq_iff_eq]
theorem sameP_comm (p q : Pt) : sameP p q = sameP q p := by
  rw [Bool.eq_iff_iff, sameP_iff, sameP_iff]
  exact ⟨fun h => ⟨h.1.symm, h.2.symm⟩, fun h => ⟨h.1.symm, h.2.symm⟩⟩
theorem meetPt_comm (a b c d : Pt) : meetPt a b c d = meetPt c d a b := by
  unfold meetPt
  rw [Bool.and_comm (decide (sgnP a b c * sgnP a b d < 0))]
  cases onPt a b c <;> cases onPt a b d <;> cases onPt c d a <;> cases onPt c d b <;> rfl
theorem meet_same {a b c d : Pt} (ha : PVP a) (hb : PVP b) (h : sameP c a = true) : meetPt a b c d = true := by
  have e := sameP_iff.1 h
  have : onPt a b c = true := by
    have := onPt_self ha hb
    unfold onPt at this ⊢
    rw [e.1, e.2]; exact this
  unfold meetPt; rw [this]; rfl
theorem mod_in {a n : Nat} (h : a < n) : a % n = a := Nat.mod_eq_of_lt h
theorem mod_out {a n : Nat} (h : n ≤ a) (h' : a < 2 * n) : a % n = a - n := by
  rw [Nat.mod_eq_sub_mod h, Nat.mod_eq_of_lt (by omega)]
theorem wrap_iff {i k n : Nat} (hk : k < n) (hik : i < k) : (k + 1) % n = i ↔ i = 0 ∧ k + 1 = n := by
  by_cases h : k + 1 < n
  · rw [mod_in h]; omega
  · rw [mod_out (by omega) (by omega)]; omega
theorem bad_next {l : List Pt} {i : Nat} (h : i + 1 < l.length) : badAt l i (i + 1) = (sameP (at_ l (i + 1)) (at_ l i) || sameP (nxt l (i + 1)) (at_ l (i + 1)) || foldAt l i) := by
  unfold badAt
  rw [if_pos rfl]
  have e : nxt l i = at_ l (i + 1) := by unfold nxt; rw [mod_in h]
  unfold foldAt
  rw [e, mod_in h, Bool.or_assoc (_ || _)]
theorem bad_wrap {l : List Pt} (h : 3 ≤ l.length) : badAt l 0 (l.length - 1) = foldAt l (l.length - 1) := by
  unfold badAt
  have e1 : (l.length - 1 + 1) % l.length = 0 := by rw [show l.length - 1 + 1 = l.length by omega, Nat.mod_self]
  rw [if_neg (by omega), if_pos e1]
  unfold foldAt
  rw [e1]
  have e : nxt l (l.length - 1) = at_ l 0 := by unfold nxt; rw [e1]
  rw [e]
theorem bad_far {l : List Pt} {i k : Nat} (hk : k < l.length) (h1 : i + 1 < k) (h2 : ¬ (i = 0 ∧ k + 1 = l.length)) : badAt l i k = meetPt (at_ l i) (nxt l i) (at_ l k) (nxt l k) := by
  unfold badAt
  rw [if_neg (by omega), if_neg (fun c => h2 ((wrap_iff hk (by omega)).1 c))]
theorem simple_iff {l : List Pt} : simpleB l = true ↔ (∀ i, i < l.length → ∀ t, t < l.length - 1 → dupAt l i t = false) ∧ ∀ i, i < l.length → foldAt l i = false ∧ ∀ t, t < l.length - 3 → meetAt l i t = false := by
  unfold simpleB
  simp only [Bool.and_eq_true, List.all_eq_true, List.mem_range, Bool.not_eq_true']
theorem pairs_simple {l : List Pt} (hv : Pure.cvB l = true) : pairsB l = simpleB l := by
  have hn := (Pure.cvB_iff.1 hv).1.1
  have pv : ∀ j, j < l.length → PVP (at_ l j) := fun j hj => pv_at hv hj
  have pn : ∀ j, j < l.length → PVP (nxt l j) := fun j hj => pv_at hv (Nat.mod_lt _ (by omega))
  rw [Bool.eq_iff_iff, simple_iff]
  unfold pairsB
  rw [decide_eq_true_eq]
  constructor
  · intro H
    have hnext : ∀ i, i + 1 < l.length → sameP (at_ l (i + 1)) (at_ l i) = false ∧ sameP (nxt l (i + 1)) (at_ l (i + 1)) = false ∧ foldAt l i = false := by
      intro i hi
      have := H i (by omega) (i + 1) hi (by omega)
      rw [bad_next hi, Bool.or_eq_false_iff, Bool.or_eq_false_iff] at this
      exact ⟨this.1.1, this.1.2, this.2⟩
    have hlast : sameP (at_ l 0) (at_ l (l.length - 1)) = false := by
      have := (hnext (l.length - 2) (by omega)).2.1
      rw [show l.length - 2 + 1 = l.length - 1 by omega] at this
      unfold nxt at this
      rw [show l.length - 1 + 1 = l.length by omega, Nat.mod_self] at this
      exact this
    have hdist : ∀ i k, i < k → k < l.length → sameP (at_ l k) (at_ l i) = false := by
      intro i k hik hk
      by_cases h1 : k = i + 1
      · subst h1; exact (hnext i hk).1
      · by_cases h2 : i = 0 ∧ k + 1 = l.length
        · obtain ⟨rfl, h2⟩ := h2
          rw [show k = l.length - 1 by omega, sameP_comm]; exact hlast
        · have := H i (by omega) k hk hik
          rw [bad_far hk (by omega) h2] at this
          apply Bool.eq_false_iff.2
          intro c
          rw [meet_same (pv i (by omega)) (pn i (by omega)) c] at this
          exact absurd this (by decide)
    refine ⟨fun i hi t ht => ?_, fun i hi => ⟨?_, fun t ht => ?_⟩⟩
    · unfold dupAt
      by_cases h : i + 1 + t < l.length
      · rw [mod_in h]; exact hdist i _ (by omega) h
      · rw [mod_out (by omega) (by omega), sameP_comm]; exact hdist _ i (by omega) hi
    · by_cases h : i + 1 < l.length
      · exact (hnext i h).2.2
      · have := H 0 (by omega) (l.length - 1) (by omega) (by omega)
        rw [bad_wrap hn] at this
        rw [show i = l.length - 1 by omega]; exact this
    · unfold meetAt
      by_cases h : i + 2 + t < l.length
      · rw [mod_in h]
        have := H i hi (i + 2 + t) h (by omega)
        rwa [bad_far h (by omega) (by omega)] at this
      · rw [mod_out (by omega) (by omega), meetPt_comm]
        have := H (i + 2 + t - l.length) (by omega) i hi (by omega)
        rwa [bad_far hi (by omega) (by omega)] at this
  · rintro ⟨hd, hf⟩ i hi k hk hik
    by_cases h1 : k = i + 1
    · subst h1
      rw [bad_next hk, (hf i hi).1]
      have d1 := hd i hi 0 (by omega)
      have d2 := hd (i + 1) hk 0 (by omega)
      unfold dupAt at d1 d2
      rw [Nat.add_zero, mod_in hk] at d1
      rw [Nat.add_zero] at d2
      unfold nxt
      rw [d1, d2]; rfl
    · by_cases h2 : i = 0 ∧ k + 1 = l.length
      · obtain ⟨rfl, h2⟩ := h2
        rw [show k = l.length - 1 by omega, bad_wrap hn]
        exact (hf _ (by omega)).1
      · rw [bad_far hk (by omega) h2]
        have := (hf i hi).2 (k - i - 2) (by omega)
        unfold meetAt at this
        rwa [show i + 2 + (k - i - 2) = k by omega, mod_in hk] at this
/-- What the reference answers. -/
theorem specValid (A0 : Option Addr) (c0 : Nat) (l0 : List Pt) (w : World) (hr0 : Kd.C k32 w A0 l0.length l0) (hc0 : l0.length ≤ c0) (hl : l0.length ≤ 1048576) :
    Calls Try.prog 19 #[.slice A0 l0.length c0] w fun e w' => e = .returned (.bool (okS l0)) ∧ Below w.heap.size w w' := by
  unfold okS
  cases h : Pure.cvB l0
  · rw [Bool.false_and]; exact specValid_no A0 c0 l0 w hr0 hc0 hl h
  · rw [Bool.true_and, ← pairs_simple h]; exact specValid_yes A0 c0 l0 w hr0 hc0 h
end Go.Proofs.Ytgdhgncdpmalcaa.Ring
namespace Go.Proofs.Ytgdhgncdpmalcaa.Q
open Go.RowKit Go.Proofs.YtgdhgncdpmalcaaW.PrintWords Go.Proofs.YtgdhgncdpmalcaaW.PrintLast Go.Proofs.YtgdhgncdpmalcaaW.PrintMore
attribute [local go_sem] max2_int min2_int max_two min_two max_three min_three max_four min_four
set_option linter.unusedVariables false
set_option linter.unusedSimpArgs false

/-! ### spec_PolyValid: function 19 -/
def spec_PolyValid.f (l0 : List (S32)) : Option (Bool) := if l0.length ≤ 1048576 then some (Go.Proofs.Ytgdhgncdpmalcaa.Ring.okS l0) else none
theorem spec_PolyValid.calls (A0 : Option Addr) (c0 : Nat) (l0 : List (S32)) (r : Bool) (w : World) (hr0 : Kd.C k32 w A0 l0.length l0) (hc0 : l0.length ≤ c0) (h : spec_PolyValid.f l0 = some r) :
    Calls Try.prog 19 #[.slice A0 l0.length c0] w fun e w' => e = .returned (.bool r) ∧ Below w.heap.size w w' := by
  unfold spec_PolyValid.f at h
  by_cases c : l0.length ≤ 1048576
  · rw [if_pos c] at h
    obtain rfl := Option.some.inj h
    exact Go.Proofs.Ytgdhgncdpmalcaa.Ring.specValid A0 c0 l0 w hr0 hc0 c
  · rw [if_neg c] at h
    exact absurd h (by simp)

end Go.Proofs.Ytgdhgncdpmalcaa.Q
