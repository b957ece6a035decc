/- Part 5 of what the proof of this law rests on: the functions of the translation as plain Lean functions with their walks, and the plain laws behind. -/
import Derived.Below
import Derived.Outline
import Derived.Test.YtgdhgncdpmalcaaMFnPick4
namespace Go.Proofs.Ytgdhgncdpmalcaa.Q
open Go.RowKit Go.Proofs.YtgdhgncdpmalcaaW.PrintWords Go.Proofs.YtgdhgncdpmalcaaW.PrintLast Go.Proofs.YtgdhgncdpmalcaaW.PrintMore
attribute [local go_sem] max2_int min2_int max_two min_two max_three min_three max_four min_four
set_option linter.unusedVariables false
set_option linter.unusedSimpArgs false

/-! ### spec_l31Area: function 46 -/
def spec_l31Area.l0 : Nat → List (S32) → Int → Int → Option (Int)
  | 0, _, _, _ => none
  | k + 1, x0, x3, x4 => if x4 < (x0.length : Int) then (if 0 ≤ x4 then (if (x0.length : Int) = 0 then (none) else (if 0 ≤ (Int.tmod (wrap64 (x4 + 1)) (x0.length : Int)) then (if (Int.tmod (wrap64 (x4 + 1)) (x0.length : Int)) < (x0.length : Int) then ((spec_l2Cross.f ((rd_T32 x0 x4).f0) ((rd_T32 x0 x4).f1) ((rd_T32 x0 (Int.tmod (wrap64 (x4 + 1)) (x0.length : Int))).f0) ((rd_T32 x0 (Int.tmod (wrap64 (x4 + 1)) (x0.length : Int))).f1)).bind fun t225 => (spec_l31Area.l0 k x0 (wrap64 (x3 + t225)) (wrap64 (x4 + 1)))) else (none)) else (none))) else (none)) else (some x3)
def spec_l31Area.f (k : Nat) (l0 : List (S32)) : Option (Int) := spec_l31Area.l0 k l0 0 0
def spec_l31Area.T5 : Bool × List (List Nat × List Nat) := (true, [([], []), ([], []), ([], []), ([1, 2], [1, 2]), ([3], [3]), ([], []), ([], []), ([6], [6]), ([], []), ([8], [8]), ([7, 9], [7, 9]), ([5, 10], [5, 10]), ([11], [11]), ([4, 12], [4, 12]), ([0, 13], [0, 13]), ([14, 13, 0, 1, 2, 3, 4, 5, 6, 7, 8, 9, 10, 11, 12, 13, 14], [0, 14])])
def spec_l31Area.B5 : List Nat := [0, 0, 0, 6, 14, 0, 0, 64, 0, 256, 960, 2016, 4064, 8190, 16383, 32767]
theorem spec_l31Area.tab5 : rtab .any (opsOf Try.f46 5) = spec_l31Area.T5 := by kernel_rfl
theorem spec_l31Area.bits5 : waitsOk spec_l31Area.T5.2 spec_l31Area.B5 = true := by kernel_rfl
set_option maxHeartbeats 8000000 in
set_option maxRecDepth 100000 in
theorem spec_l31Area.calls (k : Nat) (A0 : Option Addr) (c0 : Nat) (l0 : List (S32)) (r : Int) (w : World) (hr0 : Kd.C k32 w A0 l0.length l0) (hc0 : l0.length ≤ c0) (h : spec_l31Area.f k l0 = some r) :
    Calls Try.prog 46 #[.slice A0 l0.length c0] w fun e w' => e = .returned (.int .i64 r) ∧ Below w.heap.size w w' := by
  have hu32 := Try.underlying32
  have HR0 := Aside0.mk hr0
  have HC0 := Aside0.mk hc0
  clear hr0 hc0
  have HB := Aside0.mk (Below.refl w.heap.size w)
  have H : (spec_l31Area.l0 k l0 0 0) = some r := h
  clear h
  have H' := Aside0.mk H
  clear H
  go_enter Try.func46, Try.ntmps46
  go_wp2
  go_loopg [3, 4] k (fun kq v3 v4 w' => ∃ (x3_1 : Int) (x4_1 : Int), v3 = .int .i64 x3_1 ∧ v4 = .int .i64 x4_1 ∧ Aside0 (spec_l31Area.l0 kq l0 x3_1 x4_1 = some r) ∧ Aside0 (kq ≤ k) ∧ Aside0 (Below w.heap.size w w'))
  case atStart => exact ⟨(0), (0), qq13, qq13, H', ⟨Nat.le_refl _⟩, ⟨qq1⟩⟩
  case round =>
    clear H'
    obtain ⟨x3_1, x4_1, rfl, rfl, HA, HK1, HB⟩ := hrel
    cases gk with
    | zero => exact absurd HA.out (by simp [spec_l31Area.l0])
    | succ k1 =>
      have H := HA.out
      clear HA
      simp only [spec_l31Area.l0] at H
      by_cases c2 : x4_1 < (l0.length : Int)
      · rw [if_pos c2] at H
        have c2b0 : decide (x4_1 < (l0.length : Int)) = true := decide_eq_true c2
        clear c2
        by_cases c3 : 0 ≤ x4_1
        · rw [if_pos c3] at H
          have c3b0 : decide (0 ≤ x4_1) = true := decide_eq_true c3
          clear c3
          by_cases c4 : (l0.length : Int) = 0
          · rw [if_pos c4] at H
            exact absurd H (by simp)
          · rw [if_neg c4] at H
            have c4b0 : ((l0.length : Int) == 0) = false := beq_eq_false_iff_ne.mpr c4
            have c4b1 : ((l0.length : Int) != 0) = true := bne_iff_ne.mpr c4
            have c4b2 : ¬ (l0 = []) := fun h_ => c4 (by rw [h_]; rfl)
            obtain ⟨ji5, hji5⟩ : ∃ j_ : Int, (Int.tmod (wrap64 (x4_1 + 1)) (l0.length : Int)) = j_ := ⟨_, rfl⟩
            replace H : (if 0 ≤ (ji5) then (if (ji5) < (l0.length : Int) then ((spec_l2Cross.f ((rd_T32 l0 x4_1).f0) ((rd_T32 l0 x4_1).f1) ((rd_T32 l0 (ji5)).f0) ((rd_T32 l0 (ji5)).f1)).bind fun t225 => (spec_l31Area.l0 k1 l0 (wrap64 (x3_1 + t225)) (wrap64 (x4_1 + 1)))) else (none)) else (none)) = some r := by first | (rw [hji5] at H; exact H) | (simp only [hji5] at H ⊢; exact H)
            by_cases c6 : 0 ≤ (ji5)
            · rw [if_pos c6] at H
              have c6b0 : decide (0 ≤ (ji5)) = true := decide_eq_true c6
              clear c6
              by_cases c7 : (ji5) < (l0.length : Int)
              · rw [if_pos c7] at H
                have c7b0 : decide ((ji5) < (l0.length : Int)) = true := decide_eq_true c7
                clear c7
                replace H := Option.bind_eq_some_iff.mp H
                obtain ⟨t225, A80, H⟩ := H
                replace H : (spec_l31Area.l0 k1 l0 (wrap64 (x3_1 + t225)) (wrap64 (x4_1 + 1))) = some r := H
                have A8 := Aside0.mk A80
                clear A80
                have H' := Aside0.mk H
                clear H
                try go_wp2
                have n0_ := Aside0.mk (below_drew1 HB.out)
                clear HB
                have HB := n0_
                clear n0_
                have p223 : 0 ≤ (x4_1 : Int) := of_decide_eq_true qq18
                have q223 : x4_1 < (l0.length : Int) := of_decide_eq_true qq18
                obtain ⟨ad223, e223, hx223_0, hx223_1⟩ := at_T32 HR0.out x4_1 p223 q223
                have hw223_1 := hx223_1
                have hw223_0 := hx223_0
                cases e223
                replace hx223_0 := (HB.out.cell (World.block_lt_of_cell? w _ hx223_0)).trans hx223_0
                replace hx223_1 := (HB.out.cell (World.block_lt_of_cell? w _ hx223_1)).trans hx223_1
                replace p223 := eq_true p223
                replace q223 := eq_true q223
                have p224 : 0 ≤ ((ji5) : Int) := of_decide_eq_true qq18
                have q224 : (ji5) < (l0.length : Int) := of_decide_eq_true qq18
                obtain ⟨ad224, e224, hx224_0, hx224_1⟩ := at_T32 HR0.out (ji5) p224 q224
                have hw224_1 := hx224_1
                have hw224_0 := hx224_0
                obtain rfl : ad223 = ad224 := (by injection e224)
                replace hx224_0 := (HB.out.cell (World.block_lt_of_cell? w _ hx224_0)).trans hx224_0
                replace hx224_1 := (HB.out.cell (World.block_lt_of_cell? w _ hx224_1)).trans hx224_1
                replace p224 := eq_true p224
                replace q224 := eq_true q224
                refine start_ (n := 16) (S := fun w' => w'.cell? (ad223.add ((x4_1).toNat * 2)) = some (.int .i64 ((rd_T32 l0 x4_1).f0)) ∧ w'.cell? ⟨(ad223.add ((x4_1).toNat * 2)).block, (ad223.add ((x4_1).toNat * 2)).off + 1, none⟩ = some (.int .i64 ((rd_T32 l0 x4_1).f1)) ∧ w'.cell? (ad223.add (((ji5)).toNat * 2)) = some (.int .i64 ((rd_T32 l0 (ji5)).f0)) ∧ w'.cell? ⟨(ad223.add (((ji5)).toNat * 2)).block, (ad223.add (((ji5)).toNat * 2)).off + 1, none⟩ = some (.int .i64 ((rd_T32 l0 (ji5)).f1))) (ds := []) #[false, false, false, false, false, false, false, false, false, false, false, false, false, false, false, false] (by kernel_rfl) rfl rfl ⟨((HB.out.cell (World.block_lt_of_cell? w _ hw223_0)).trans hw223_0), ((HB.out.cell (World.block_lt_of_cell? w _ hw223_1)).trans hw223_1), ((HB.out.cell (World.block_lt_of_cell? w _ hw224_0)).trans hw224_0), ((HB.out.cell (World.block_lt_of_cell? w _ hw224_1)).trans hw224_1)⟩ (fun hHeld => ?_); refine with_tabW spec_l31Area.tab5 spec_l31Area.bits5 (fun HT_ HW_ => ?_)
                generalize wr.drew = w9 at HB hx223_0 hx223_1 hx224_0 hx224_1 hHeld ⊢
                refine pure_ (i := 0) (N := some 11) #[true, false, false, false, false, false, false, false, false, false, false, false, false, false, false, false] rfl rfl (any_of HT_.out (by kernel_rfl)) (fun _ _ _ h => h) (Or.inl ⟨by rfl, pA_⟩) pB_ ?_
                refine pure_ (i := 1) (N := some 12) #[true, true, false, false, false, false, false, false, false, false, false, false, false, false, false, false] rfl rfl (any_of HT_.out (by kernel_rfl)) (fun _ _ _ h => h) (Or.inl ⟨by rfl, pA_⟩) pB_ ?_
                refine pure_ (i := 2) (N := some 13) #[true, true, true, false, false, false, false, false, false, false, false, false, false, false, false, false] rfl rfl (any_of HT_.out (by kernel_rfl)) (fun _ _ _ h => h) (Or.inl ⟨by rfl, pA_⟩) pB_ ?_
                refine pure_ (i := 3) (N := some 14) #[true, true, true, true, false, false, false, false, false, false, false, false, false, false, false, false] rfl rfl (any_of HT_.out (by kernel_rfl)) (fun _ _ _ h => h) (Or.inl ⟨by rfl, pA_⟩) pB_ ?_
                refine pure_ (i := 5) (N := some 16) #[true, true, true, true, false, true, false, false, false, false, false, false, false, false, false, false] rfl rfl (any_of HT_.out (by kernel_rfl)) (fun _ _ _ h => h) (Or.inl ⟨by rfl, pA_⟩) pB_ ?_
                refine pure_ (i := 6) (N := some 17) #[true, true, true, true, false, true, true, false, false, false, false, false, false, false, false, false] rfl rfl (any_of HT_.out (by kernel_rfl)) (fun _ _ _ h => h) (Or.inl ⟨by rfl, pA_⟩) pB_ ?_
                refine pure_ (i := 7) (N := some 18) #[true, true, true, true, false, true, true, true, false, false, false, false, false, false, false, false] rfl rfl (any_of HT_.out (by kernel_rfl)) (fun _ _ _ h => h) (Or.inl ⟨by rfl, pA_⟩) pB_ ?_
                refine pure_ (i := 8) (N := some 19) #[true, true, true, true, false, true, true, true, true, false, false, false, false, false, false, false] rfl rfl (any_of HT_.out (by kernel_rfl)) (fun _ _ _ h => h) (Or.inl ⟨by rfl, pA_⟩) pB_ ?_
                refine pure_ (i := 9) (N := some 20) #[true, true, true, true, false, true, true, true, true, true, false, false, false, false, false, false] rfl rfl (any_of HT_.out (by kernel_rfl)) (fun _ _ _ h => h) (Or.inl ⟨by rfl, pA_⟩) pB_ ?_
                refine pure_ (i := 10) (N := some 21) #[true, true, true, true, false, true, true, true, true, true, true, false, false, false, false, false] rfl rfl (any_of HT_.out (by kernel_rfl)) (fun _ _ _ h => h) (Or.inl ⟨by rfl, pA_⟩) pB_ ?_
                refine pure_ (i := 11) (N := some 22) #[true, true, true, true, false, true, true, true, true, true, true, true, false, false, false, false] rfl rfl (any_of HT_.out (by kernel_rfl)) (fun _ _ _ h => h) (Or.inl ⟨by rfl, pA_⟩) pB_ ?_
                refine take_ (i := 4) (N := some 15) (v := ?_) (a' := ?_) #[true, true, true, true, true, true, true, true, true, true, true, true, false, false, false, false] rfl rfl (take_ofW HT_.out HW_.out (by kernel_rfl)) (fun _ _ _ h => h) (Or.inl ⟨by rfl, ?_⟩) hHeld ?_ ?_
                rotate_left
                · rintro w' ⟨s0, s1, s2, s3⟩
                  go_simp
                  with_reducible rfl
                rotate_left
                · simp only [Act.put, List.setIfInBounds_toArray, List.set_cons_zero, List.set_cons_succ, i64_w, i32_w]
                  rfl
                refine take_ (i := 12) (N := some 23) (v := ?_) (a' := ?_) #[true, true, true, true, true, true, true, true, true, true, true, true, true, false, false, false] rfl rfl (take_ofW HT_.out HW_.out (by kernel_rfl)) (fun _ _ _ h => h) (Or.inl ⟨by rfl, ?_⟩) hHeld ?_ ?_
                rotate_left
                · rintro w' ⟨s0, s1, s2, s3⟩
                  go_simp
                  with_reducible rfl
                rotate_left
                · simp only [Act.put, List.setIfInBounds_toArray, List.set_cons_zero, List.set_cons_succ, i64_w, i32_w]
                  rfl
                refine one_ (i := 13) (N := some 24) #[true, true, true, true, true, true, true, true, true, true, true, true, true, true, false, false] rfl rfl (one_of HT_.out (by kernel_rfl)) (by decide) (fun K hK => ?_)
                refine goes_ Try.func75 (by kernel_rfl) rfl #[.agg #[.int .i64 ((rd_T32 l0 x4_1).f0), .int .i64 ((rd_T32 l0 x4_1).f1)], .agg #[.int .i64 ((rd_T32 l0 (ji5)).f0), .int .i64 ((rd_T32 l0 (ji5)).f1)]] (by rfl) rfl rfl (by (try simp only [List.map_toArray, List.map_cons, List.map_nil]); first | done | (simp only [hji5]; rfl) | rfl | (simp only [List.length_drop, List.length_take]; rfl)) ?_
                with_reducible refine (spec_l2Cross.calls ((rd_T32 l0 x4_1).f0) ((rd_T32 l0 x4_1).f1) ((rd_T32 l0 (ji5)).f0) ((rd_T32 l0 (ji5)).f1) t225 _ A8.out).mono ?_
                rintro e w10 ⟨rfl, hb⟩
                refine ⟨_, rfl, ?_⟩
                have n0_ := Aside0.mk (below_step qq1 hb)
                clear HB
                have HB := n0_
                clear n0_
                (try clear hb)
                (try clear hb2)
                (try clear hk)
                (try clear hi)
                refine hK.out _ _ ⟨((HB.out.cell (World.block_lt_of_cell? w _ hw223_0)).trans hw223_0), ((HB.out.cell (World.block_lt_of_cell? w _ hw223_1)).trans hw223_1), ((HB.out.cell (World.block_lt_of_cell? w _ hw224_0)).trans hw224_0), ((HB.out.cell (World.block_lt_of_cell? w _ hw224_1)).trans hw224_1)⟩ (fun hHeld => ?_)
                clear hK K
                refine norm_ (a' := ?_) ?_ ?_
                rotate_left
                · show Act.put _ (some 24) _ = _
                  simp only [Act.put, List.setIfInBounds_toArray, List.set_cons_zero, List.set_cons_succ, i64_w, i32_w]
                  rfl
                refine pure_ (i := 14) (N := some 25) #[true, true, true, true, true, true, true, true, true, true, true, true, true, true, true, false] rfl rfl (any_of HT_.out (by kernel_rfl)) (fun _ _ _ h => h) (Or.inl ⟨by rfl, pA_⟩) pB_ ?_
                refine pure_ (i := 15) (N := some 3) #[true, true, true, true, true, true, true, true, true, true, true, true, true, true, true, true] rfl rfl (any_of HT_.out (by kernel_rfl)) (fun _ _ _ h => h) (Or.inl ⟨by rfl, pA_⟩) pB_ ?_
                refine done_ (done_of HT_.out (by kernel_rfl)) ?_
                try go_wp2
                go_roundg k1
                case measure => have := HK1.out; omega
                case rel => exact ⟨(wrap64 (x3_1 + t225)), (wrap64 (x4_1 + 1)), qq13, qq13, H', ⟨by have := HK1.out; omega⟩, ⟨qq1⟩⟩
              · rw [if_neg c7] at H
                exact absurd H (by simp)
            · rw [if_neg c6] at H
              exact absurd H (by simp)
        · rw [if_neg c3] at H
          exact absurd H (by simp)
      · rw [if_neg c2] at H
        have c2b0 : decide (x4_1 < (l0.length : Int)) = false := decide_eq_false c2
        clear c2
        obtain rfl := Option.some.inj H
        go_wp2
        go_ret
        exact ⟨qq12, qq1⟩

end Go.Proofs.Ytgdhgncdpmalcaa.Q
namespace Go.Proofs.Ytgdhgncdpmalcaa.Q
open Go.RowKit Go.Proofs.YtgdhgncdpmalcaaW.PrintWords Go.Proofs.YtgdhgncdpmalcaaW.PrintLast Go.Proofs.YtgdhgncdpmalcaaW.PrintMore
attribute [local go_sem] max2_int min2_int max_two min_two max_three min_three max_four min_four
set_option linter.unusedVariables false
set_option linter.unusedSimpArgs false

/-! ### spec_l31Side: function 64 -/
def spec_l31Side.f (a0_0 : Int) (a0_1 : Int) (a1_0 : Int) (a1_1 : Int) (a2_0 : Int) (a2_1 : Int) : Option (Int) := (spec_l2Step.f a0_0 a0_1 a1_0 a1_1).bind fun bt356 => ((spec_l2Step.f a0_0 a0_1 a2_0 a2_1).bind fun bt358 => ((spec_l2Cross.f bt356.1 bt356.2 bt358.1 bt358.2).bind fun t360 => ((spec_l1Sign.f t360).bind fun t361 => (some t361))))
def spec_l31Side.T1 : Bool × List (List Nat × List Nat) := (true, [([], []), ([], []), ([0, 1], [0, 1]), ([], []), ([], []), ([3, 4, 2], [3, 4]), ([2, 5, 5], [2, 5]), ([6, 6], [6]), ([7, 7, 0, 1, 2, 3, 4, 5, 6, 7], [7])])
def spec_l31Side.B1 : List Nat := [0, 0, 3, 0, 0, 31, 63, 127, 255]
theorem spec_l31Side.tab1 : rtab .any (opsOf Try.f64 1) = spec_l31Side.T1 := by kernel_rfl
theorem spec_l31Side.bits1 : waitsOk spec_l31Side.T1.2 spec_l31Side.B1 = true := by kernel_rfl
set_option maxHeartbeats 8000000 in
set_option maxRecDepth 100000 in
theorem spec_l31Side.calls (a0_0 : Int) (a0_1 : Int) (a1_0 : Int) (a1_1 : Int) (a2_0 : Int) (a2_1 : Int) (r : Int) (w : World) (h : spec_l31Side.f a0_0 a0_1 a1_0 a1_1 a2_0 a2_1 = some r) :
    Calls Try.prog 64 #[.agg #[.int .i64 a0_0, .int .i64 a0_1], .agg #[.int .i64 a1_0, .int .i64 a1_1], .agg #[.int .i64 a2_0, .int .i64 a2_1]] w fun e w' => e = .returned (.int .i64 r) ∧ Below w.heap.size w w' := by
  have hu32 := Try.underlying32
  have HB := Aside0.mk (Below.refl w.heap.size w)
  have H : ((spec_l2Step.f a0_0 a0_1 a1_0 a1_1).bind fun bt356 => ((spec_l2Step.f a0_0 a0_1 a2_0 a2_1).bind fun bt358 => ((spec_l2Cross.f bt356.1 bt356.2 bt358.1 bt358.2).bind fun t360 => ((spec_l1Sign.f t360).bind fun t361 => (some t361))))) = some r := h
  clear h
  replace H := Option.bind_eq_some_iff.mp H
  obtain ⟨⟨t356, t357⟩, A40, H⟩ := H
  replace H : ((spec_l2Step.f a0_0 a0_1 a2_0 a2_1).bind fun bt358 => ((spec_l2Cross.f t356 t357 bt358.1 bt358.2).bind fun t360 => ((spec_l1Sign.f t360).bind fun t361 => (some t361)))) = some r := H
  have A4 := Aside0.mk A40
  clear A40
  replace H := Option.bind_eq_some_iff.mp H
  obtain ⟨⟨t358, t359⟩, A50, H⟩ := H
  replace H : ((spec_l2Cross.f t356 t357 t358 t359).bind fun t360 => ((spec_l1Sign.f t360).bind fun t361 => (some t361))) = some r := H
  have A5 := Aside0.mk A50
  clear A50
  replace H := Option.bind_eq_some_iff.mp H
  obtain ⟨t360, A60, H⟩ := H
  replace H : ((spec_l1Sign.f t360).bind fun t361 => (some t361)) = some r := H
  have A6 := Aside0.mk A60
  clear A60
  replace H := Option.bind_eq_some_iff.mp H
  obtain ⟨t361, A70, H⟩ := H
  replace H : (some t361) = some r := H
  have A7 := Aside0.mk A70
  clear A70
  obtain rfl := Option.some.inj H
  go_enter Try.func64, Try.ntmps64
  try go_wp2_with (first | ((with_reducible refine gate_dst (N := 3) rfl ?_); refine box_event ?hg (N := 3) ?hd (cs := #[.int .i64 a0_0, .int .i64 a0_1]) (t := 32) ?hr ?_; (case hd => rfl); (case hg => rfl); (case hr => exact qq16); intro gb353 hg w8 hbox hb; have n0_ := Aside0.mk (below_step qq1 hb); have n1_ := Aside0.mk (hbox); have n2_ := Aside0.mk ((qq30 : w.heap.size ≤ gb353)); have n3_ := Aside0.mk ((qq30 : w.heap.size ≤ gb353)); clear HB; have HB := n0_; have BK353 := n1_; have GW353 := n2_; have GE353 := n3_; clear n0_ n1_ n2_ n3_; clear hb hbox hg) | ((with_reducible refine gate_dst (N := 4) rfl ?_); refine box_event ?hg (N := 4) ?hd (cs := #[.int .i64 a1_0, .int .i64 a1_1]) (t := 32) ?hr ?_; (case hd => rfl); (case hg => rfl); (case hr => exact qq16); intro gb354 hg w9 hbox hb; have n0_ := Aside0.mk (bbl_ BK353.out hb); have n1_ := Aside0.mk (below_step (qq6 HB.out GE353.out) hb); have n2_ := Aside0.mk (hbox); have n3_ := Aside0.mk ((qq31 HB.out GE353.out : w.heap.size ≤ gb354)); have n4_ := Aside0.mk ((qq31 HB.out GE353.out : w.heap.size ≤ gb354)); have n5_ := Aside0.mk ((qq19 BK353.out : gb353 ≠ gb354)); have n6_ := Aside0.mk ((qq20 BK353.out : gb354 ≠ gb353)); clear BK353; clear HB; have BK353 := n0_; have HB := n1_; have BK354 := n2_; have GW354 := n3_; have GE354 := n4_; have NB353_354 := n5_; have NB354_353 := n6_; clear n0_ n1_ n2_ n3_ n4_ n5_ n6_; clear hb hbox hg) | ((with_reducible refine gate_dst (N := 5) rfl ?_); refine box_event ?hg (N := 5) ?hd (cs := #[.int .i64 a2_0, .int .i64 a2_1]) (t := 32) ?hr ?_; (case hd => rfl); (case hg => rfl); (case hr => exact qq16); intro gb355 hg w10 hbox hb; have n0_ := Aside0.mk (bbl_ BK353.out hb); have n1_ := Aside0.mk (bbl_ BK354.out hb); have n2_ := Aside0.mk (below_step (qq5 HB.out GE353.out GE354.out) hb); have n3_ := Aside0.mk (hbox); have n4_ := Aside0.mk ((qq32 HB.out GE353.out GE354.out : w.heap.size ≤ gb355)); have n5_ := Aside0.mk ((qq32 HB.out GE353.out GE354.out : w.heap.size ≤ gb355)); have n6_ := Aside0.mk ((qq19 BK353.out : gb353 ≠ gb355)); have n7_ := Aside0.mk ((qq20 BK353.out : gb355 ≠ gb353)); have n8_ := Aside0.mk ((qq19 BK354.out : gb354 ≠ gb355)); have n9_ := Aside0.mk ((qq20 BK354.out : gb355 ≠ gb354)); clear BK353; clear BK354; clear HB; have BK353 := n0_; have BK354 := n1_; have HB := n2_; have BK355 := n3_; have GW355 := n4_; have GE355 := n5_; have NB353_355 := n6_; have NB355_353 := n7_; have NB354_355 := n8_; have NB355_354 := n9_; clear n0_ n1_ n2_ n3_ n4_ n5_ n6_ n7_ n8_ n9_; clear hb hbox hg))
  have n0_ := Aside0.mk (blk_drew BK353.out)
  have n1_ := Aside0.mk (blk_drew BK354.out)
  have n2_ := Aside0.mk (blk_drew BK355.out)
  have n3_ := Aside0.mk (below_drew1 HB.out)
  clear BK353
  clear BK354
  clear BK355
  clear HB
  have BK353 := n0_
  have BK354 := n1_
  have BK355 := n2_
  have HB := n3_
  clear n0_ n1_ n2_ n3_
  refine start_ (n := 9) (S := fun w' => w'.cell? ⟨gb353, 0, none⟩ = some (.int .i64 a0_0) ∧ w'.cell? ⟨gb353, 1, none⟩ = some (.int .i64 a0_1) ∧ w'.cell? ⟨gb354, 0, none⟩ = some (.int .i64 a1_0) ∧ w'.cell? ⟨gb354, 1, none⟩ = some (.int .i64 a1_1) ∧ w'.cell? ⟨gb355, 0, none⟩ = some (.int .i64 a2_0) ∧ w'.cell? ⟨gb355, 1, none⟩ = some (.int .i64 a2_1)) (ds := []) #[false, false, false, false, false, false, false, false, false] (by kernel_rfl) rfl rfl ⟨(blk_cell BK353.out 0).trans rfl, (blk_cell BK353.out 1).trans rfl, (blk_cell BK354.out 0).trans rfl, (blk_cell BK354.out 1).trans rfl, (blk_cell BK355.out 0).trans rfl, (blk_cell BK355.out 1).trans rfl⟩ (fun hHeld => ?_); refine with_tabW spec_l31Side.tab1 spec_l31Side.bits1 (fun HT_ HW_ => ?_)
  generalize w10.drew = w11 at BK353 BK354 BK355 HB hHeld ⊢
  refine take_ (i := 0) (N := some 7) (v := ?_) (a' := ?_) #[true, false, false, false, false, false, false, false, false] rfl rfl (take_ofW HT_.out HW_.out (by kernel_rfl)) (fun _ _ _ h => h) (Or.inl ⟨by rfl, ?_⟩) hHeld ?_ ?_
  rotate_left
  · rintro w' ⟨s0, s1, s2, s3, s4, s5⟩
    go_simp
    with_reducible rfl
  rotate_left
  · simp only [Act.put, List.setIfInBounds_toArray, List.set_cons_zero, List.set_cons_succ, i64_w, i32_w]
    rfl
  refine take_ (i := 1) (N := some 8) (v := ?_) (a' := ?_) #[true, true, false, false, false, false, false, false, false] rfl rfl (take_ofW HT_.out HW_.out (by kernel_rfl)) (fun _ _ _ h => h) (Or.inl ⟨by rfl, ?_⟩) hHeld ?_ ?_
  rotate_left
  · rintro w' ⟨s0, s1, s2, s3, s4, s5⟩
    go_simp
    with_reducible rfl
  rotate_left
  · simp only [Act.put, List.setIfInBounds_toArray, List.set_cons_zero, List.set_cons_succ, i64_w, i32_w]
    rfl
  refine take_ (i := 3) (N := some 10) (v := ?_) (a' := ?_) #[true, true, false, true, false, false, false, false, false] rfl rfl (take_ofW HT_.out HW_.out (by kernel_rfl)) (fun _ _ _ h => h) (Or.inl ⟨by rfl, ?_⟩) hHeld ?_ ?_
  rotate_left
  · rintro w' ⟨s0, s1, s2, s3, s4, s5⟩
    go_simp
    with_reducible rfl
  rotate_left
  · simp only [Act.put, List.setIfInBounds_toArray, List.set_cons_zero, List.set_cons_succ, i64_w, i32_w]
    rfl
  refine take_ (i := 4) (N := some 11) (v := ?_) (a' := ?_) #[true, true, false, true, true, false, false, false, false] rfl rfl (take_ofW HT_.out HW_.out (by kernel_rfl)) (fun _ _ _ h => h) (Or.inl ⟨by rfl, ?_⟩) hHeld ?_ ?_
  rotate_left
  · rintro w' ⟨s0, s1, s2, s3, s4, s5⟩
    go_simp
    with_reducible rfl
  rotate_left
  · simp only [Act.put, List.setIfInBounds_toArray, List.set_cons_zero, List.set_cons_succ, i64_w, i32_w]
    rfl
  refine one_ (i := 2) (N := some 9) #[true, true, true, true, true, false, false, false, false] rfl rfl (one_of HT_.out (by kernel_rfl)) (by decide) (fun K hK => ?_)
  refine goes_ Try.func77 (by kernel_rfl) rfl #[.agg #[.int .i64 a0_0, .int .i64 a0_1], .agg #[.int .i64 a1_0, .int .i64 a1_1]] (by rfl) rfl rfl qq2 ?_
  with_reducible refine (spec_l2Step.calls a0_0 a0_1 a1_0 a1_1 t356 t357 _ A4.out).mono ?_
  rintro e w12 ⟨rfl, hb⟩
  refine ⟨_, rfl, ?_⟩
  have n0_ := Aside0.mk (bbl_ BK353.out hb)
  have n1_ := Aside0.mk (bbl_ BK354.out hb)
  have n2_ := Aside0.mk (bbl_ BK355.out hb)
  have n3_ := Aside0.mk (below_step (qq3 HB.out GE353.out GE354.out GE355.out) hb)
  clear BK353
  clear BK354
  clear BK355
  clear HB
  have BK353 := n0_
  have BK354 := n1_
  have BK355 := n2_
  have HB := n3_
  clear n0_ n1_ n2_ n3_
  (try clear hb)
  (try clear hb2)
  (try clear hk)
  (try clear hi)
  refine hK.out _ _ ⟨(blk_cell BK353.out 0).trans rfl, (blk_cell BK353.out 1).trans rfl, (blk_cell BK354.out 0).trans rfl, (blk_cell BK354.out 1).trans rfl, (blk_cell BK355.out 0).trans rfl, (blk_cell BK355.out 1).trans rfl⟩ (fun hHeld => ?_)
  clear hK K
  refine norm_ (a' := ?_) ?_ ?_
  rotate_left
  · show Act.put _ (some 9) _ = _
    simp only [Act.put, List.setIfInBounds_toArray, List.set_cons_zero, List.set_cons_succ, i64_w, i32_w]
    rfl
  refine one_ (i := 5) (N := some 12) #[true, true, true, true, true, true, false, false, false] rfl rfl (one_of HT_.out (by kernel_rfl)) (by decide) (fun K hK => ?_)
  refine goes_ Try.func77 (by kernel_rfl) rfl #[.agg #[.int .i64 a0_0, .int .i64 a0_1], .agg #[.int .i64 a2_0, .int .i64 a2_1]] (by rfl) rfl rfl qq2 ?_
  with_reducible refine (spec_l2Step.calls a0_0 a0_1 a2_0 a2_1 t358 t359 _ A5.out).mono ?_
  rintro e w13 ⟨rfl, hb⟩
  refine ⟨_, rfl, ?_⟩
  have n0_ := Aside0.mk (bbl_ BK353.out hb)
  have n1_ := Aside0.mk (bbl_ BK354.out hb)
  have n2_ := Aside0.mk (bbl_ BK355.out hb)
  have n3_ := Aside0.mk (below_step (qq3 HB.out GE353.out GE354.out GE355.out) hb)
  clear BK353
  clear BK354
  clear BK355
  clear HB
  have BK353 := n0_
  have BK354 := n1_
  have BK355 := n2_
  have HB := n3_
  clear n0_ n1_ n2_ n3_
  (try clear hb)
  (try clear hb2)
  (try clear hk)
  (try clear hi)
  refine hK.out _ _ ⟨(blk_cell BK353.out 0).trans rfl, (blk_cell BK353.out 1).trans rfl, (blk_cell BK354.out 0).trans rfl, (blk_cell BK354.out 1).trans rfl, (blk_cell BK355.out 0).trans rfl, (blk_cell BK355.out 1).trans rfl⟩ (fun hHeld => ?_)
  clear hK K
  refine norm_ (a' := ?_) ?_ ?_
  rotate_left
  · show Act.put _ (some 12) _ = _
    simp only [Act.put, List.setIfInBounds_toArray, List.set_cons_zero, List.set_cons_succ, i64_w, i32_w]
    rfl
  refine one_ (i := 6) (N := some 13) #[true, true, true, true, true, true, true, false, false] rfl rfl (one_of HT_.out (by kernel_rfl)) (by decide) (fun K hK => ?_)
  refine goes_ Try.func75 (by kernel_rfl) rfl #[.agg #[.int .i64 t356, .int .i64 t357], .agg #[.int .i64 t358, .int .i64 t359]] (by rfl) rfl rfl qq2 ?_
  with_reducible refine (spec_l2Cross.calls t356 t357 t358 t359 t360 _ A6.out).mono ?_
  rintro e w14 ⟨rfl, hb⟩
  refine ⟨_, rfl, ?_⟩
  have n0_ := Aside0.mk (bbl_ BK353.out hb)
  have n1_ := Aside0.mk (bbl_ BK354.out hb)
  have n2_ := Aside0.mk (bbl_ BK355.out hb)
  have n3_ := Aside0.mk (below_step (qq3 HB.out GE353.out GE354.out GE355.out) hb)
  clear BK353
  clear BK354
  clear BK355
  clear HB
  have BK353 := n0_
  have BK354 := n1_
  have BK355 := n2_
  have HB := n3_
  clear n0_ n1_ n2_ n3_
  (try clear hb)
  (try clear hb2)
  (try clear hk)
  (try clear hi)
  refine hK.out _ _ ⟨(blk_cell BK353.out 0).trans rfl, (blk_cell BK353.out 1).trans rfl, (blk_cell BK354.out 0).trans rfl, (blk_cell BK354.out 1).trans rfl, (blk_cell BK355.out 0).trans rfl, (blk_cell BK355.out 1).trans rfl⟩ (fun hHeld => ?_)
  clear hK K
  refine norm_ (a' := ?_) ?_ ?_
  rotate_left
  · show Act.put _ (some 13) _ = _
    simp only [Act.put, List.setIfInBounds_toArray, List.set_cons_zero, List.set_cons_succ, i64_w, i32_w]
    rfl
  refine one_ (i := 7) (N := some 14) #[true, true, true, true, true, true, true, true, false] rfl rfl (one_of HT_.out (by kernel_rfl)) (by decide) (fun K hK => ?_)
  refine goes_ Try.func63 (by kernel_rfl) rfl #[.int .i64 t360] (by rfl) rfl rfl qq2 ?_
  with_reducible refine (spec_l1Sign.calls t360 t361 _ A7.out).mono ?_
  rintro e w15 ⟨rfl, hb⟩
  refine ⟨_, rfl, ?_⟩
  have n0_ := Aside0.mk (bbl_ BK353.out hb)
  have n1_ := Aside0.mk (bbl_ BK354.out hb)
  have n2_ := Aside0.mk (bbl_ BK355.out hb)
  have n3_ := Aside0.mk (below_step (qq3 HB.out GE353.out GE354.out GE355.out) hb)
  clear BK353
  clear BK354
  clear BK355
  clear HB
  have BK353 := n0_
  have BK354 := n1_
  have BK355 := n2_
  have HB := n3_
  clear n0_ n1_ n2_ n3_
  (try clear hb)
  (try clear hb2)
  (try clear hk)
  (try clear hi)
  refine hK.out _ _ ⟨(blk_cell BK353.out 0).trans rfl, (blk_cell BK353.out 1).trans rfl, (blk_cell BK354.out 0).trans rfl, (blk_cell BK354.out 1).trans rfl, (blk_cell BK355.out 0).trans rfl, (blk_cell BK355.out 1).trans rfl⟩ (fun hHeld => ?_)
  clear hK K
  refine norm_ (a' := ?_) ?_ ?_
  rotate_left
  · show Act.put _ (some 14) _ = _
    simp only [Act.put, List.setIfInBounds_toArray, List.set_cons_zero, List.set_cons_succ, i64_w, i32_w]
    rfl
  refine pure_ (i := 8) (N := some 6) #[true, true, true, true, true, true, true, true, true] rfl rfl (any_of HT_.out (by kernel_rfl)) (fun _ _ _ h => h) (Or.inl ⟨by rfl, pA_⟩) pB_ ?_
  refine done_ (done_of HT_.out (by kernel_rfl)) ?_
  try go_wp2
  go_ret
  exact ⟨qq12, qq3 HB.out GE353.out GE354.out GE355.out⟩

end Go.Proofs.Ytgdhgncdpmalcaa.Q
namespace Go.Proofs.Ytgdhgncdpmalcaa.Q
open Go.RowKit Go.Proofs.YtgdhgncdpmalcaaW.PrintWords Go.Proofs.YtgdhgncdpmalcaaW.PrintLast Go.Proofs.YtgdhgncdpmalcaaW.PrintMore
attribute [local go_sem] max2_int min2_int max_two min_two max_three min_three max_four min_four
set_option linter.unusedVariables false
set_option linter.unusedSimpArgs false

/-! ### spec_l31Meet: function 51 -/
def spec_l31Meet.j0 : Nat → Bool → Int → Int → Int → Int → Int → Int → Int → Int → Option (Bool)
  | 0, _, _, _, _, _, _, _, _, _ => none
  | k + 1, x30, x379000, x379001, x380000, x380001, x381000, x381001, x382000, x382001 => if x30 = true then (some true) else ((spec_l31Side.f x379000 x379001 x380000 x380001 x381000 x381001).bind fun t386 => ((spec_l31Side.f x379000 x379001 x380000 x380001 x382000 x382001).bind fun t387 => (if (wrap64 (t386 * t387)) < 0 then ((spec_l31Side.f x381000 x381001 x382000 x382001 x379000 x379001).bind fun t388 => ((spec_l31Side.f x381000 x381001 x382000 x382001 x380000 x380001).bind fun t389 => (some (decide ((wrap64 (t388 * t389)) < 0))))) else (some false))))
def spec_l31Meet.f (k : Nat) (a0_0 : Int) (a0_1 : Int) (a1_0 : Int) (a1_1 : Int) (a2_0 : Int) (a2_1 : Int) (a3_0 : Int) (a3_1 : Int) : Option (Bool) := (spec_l2On.f a0_0 a0_1 a1_0 a1_1 a2_0 a2_1).bind fun t382 => (if t382 = true then (spec_l31Meet.j0 k true a0_0 a0_1 a1_0 a1_1 a2_0 a2_1 a3_0 a3_1) else ((spec_l2On.f a0_0 a0_1 a1_0 a1_1 a3_0 a3_1).bind fun t383 => (if t383 = true then (spec_l31Meet.j0 k true a0_0 a0_1 a1_0 a1_1 a2_0 a2_1 a3_0 a3_1) else ((spec_l2On.f a2_0 a2_1 a3_0 a3_1 a0_0 a0_1).bind fun t384 => (if t384 = true then (spec_l31Meet.j0 k true a0_0 a0_1 a1_0 a1_1 a2_0 a2_1 a3_0 a3_1) else ((spec_l2On.f a2_0 a2_1 a3_0 a3_1 a1_0 a1_1).bind fun t385 => (spec_l31Meet.j0 k t385 a0_0 a0_1 a1_0 a1_1 a2_0 a2_1 a3_0 a3_1)))))))
open Go.Proofs.Ytgdhgncdpmalcaa.Drawn in
set_option maxHeartbeats 8000000 in
set_option maxRecDepth 100000 in
theorem spec_l31Meet.calls (k : Nat) (a0_0 : Int) (a0_1 : Int) (a1_0 : Int) (a1_1 : Int) (a2_0 : Int) (a2_1 : Int) (a3_0 : Int) (a3_1 : Int) (r : Bool) (w : World) (h : spec_l31Meet.f k a0_0 a0_1 a1_0 a1_1 a2_0 a2_1 a3_0 a3_1 = some r) :
    Calls Try.prog 51 #[.agg #[.int .i64 a0_0, .int .i64 a0_1], .agg #[.int .i64 a1_0, .int .i64 a1_1], .agg #[.int .i64 a2_0, .int .i64 a2_1], .agg #[.int .i64 a3_0, .int .i64 a3_1]] w fun e w' => e = .returned (.bool r) ∧ Below w.heap.size w w' := by
  have HX := Aside0.mk (Bx.start w 32 a0_0 a0_1 a1_0 a1_1 a2_0 a2_1 a3_0 a3_1)
  unfold spec_l31Meet.f at h
  obtain ⟨b1, F1, h⟩ := Option.bind_eq_some_iff.1 h
  replace F1 := Aside0.mk F1
  have fin1 : ∀ {k : Nat}, spec_l31Meet.j0 k true a0_0 a0_1 a1_0 a1_1 a2_0 a2_1 a3_0 a3_1 = some r → r = true := by
    intro k h
    cases k with
    | zero => simp [spec_l31Meet.j0] at h
    | succ k => rw [spec_l31Meet.j0, if_pos rfl] at h; exact (Option.some.inj h).symm
  cases b1
  case true =>
    obtain rfl := fin1 (by simpa using h)
    (try clear h); clear fin1; go_enter Try.func51, Try.ntmps51; go_wp2_with (go_at_call 50; (first | (with_reducible refine (spec_l2On.calls _ _ _ _ _ _ _ _ F1.out).mono ?_) | (with_reducible refine (spec_l2On.calls _ _ _ _ _ _ _ _ F2.out).mono ?_) | (with_reducible refine (spec_l2On.calls _ _ _ _ _ _ _ _ F3.out).mono ?_) | (with_reducible refine (spec_l2On.calls _ _ _ _ _ _ _ _ F4.out).mono ?_)); rintro e wz ⟨rfl, hb⟩; have HX2 := Aside0.mk (HX.out.step hb); clear hb HX; have HX := HX2; clear HX2; have p0 := HX.out.p0; have p1 := HX.out.p1; have q0 := HX.out.q0; have q1 := HX.out.q1; have r0 := HX.out.r0; have r1 := HX.out.r1; have s0 := HX.out.s0; have s1 := HX.out.s1); go_ret; exact ⟨rfl, HX.out.be⟩
  case false =>
    rw [if_neg (by decide)] at h
    obtain ⟨b2, F2, h⟩ := Option.bind_eq_some_iff.1 h
    replace F2 := Aside0.mk F2
    cases b2
    case true =>
      obtain rfl := fin1 (by simpa using h)
      (try clear h); clear fin1; go_enter Try.func51, Try.ntmps51; go_wp2_with (go_at_call 50; (first | (with_reducible refine (spec_l2On.calls _ _ _ _ _ _ _ _ F1.out).mono ?_) | (with_reducible refine (spec_l2On.calls _ _ _ _ _ _ _ _ F2.out).mono ?_) | (with_reducible refine (spec_l2On.calls _ _ _ _ _ _ _ _ F3.out).mono ?_) | (with_reducible refine (spec_l2On.calls _ _ _ _ _ _ _ _ F4.out).mono ?_)); rintro e wz ⟨rfl, hb⟩; have HX2 := Aside0.mk (HX.out.step hb); clear hb HX; have HX := HX2; clear HX2; have p0 := HX.out.p0; have p1 := HX.out.p1; have q0 := HX.out.q0; have q1 := HX.out.q1; have r0 := HX.out.r0; have r1 := HX.out.r1; have s0 := HX.out.s0; have s1 := HX.out.s1); go_ret; exact ⟨rfl, HX.out.be⟩
    case false =>
      rw [if_neg (by decide)] at h
      obtain ⟨b3, F3, h⟩ := Option.bind_eq_some_iff.1 h
      replace F3 := Aside0.mk F3
      cases b3
      case true =>
        obtain rfl := fin1 (by simpa using h)
        (try clear h); clear fin1; go_enter Try.func51, Try.ntmps51; go_wp2_with (go_at_call 50; (first | (with_reducible refine (spec_l2On.calls _ _ _ _ _ _ _ _ F1.out).mono ?_) | (with_reducible refine (spec_l2On.calls _ _ _ _ _ _ _ _ F2.out).mono ?_) | (with_reducible refine (spec_l2On.calls _ _ _ _ _ _ _ _ F3.out).mono ?_) | (with_reducible refine (spec_l2On.calls _ _ _ _ _ _ _ _ F4.out).mono ?_)); rintro e wz ⟨rfl, hb⟩; have HX2 := Aside0.mk (HX.out.step hb); clear hb HX; have HX := HX2; clear HX2; have p0 := HX.out.p0; have p1 := HX.out.p1; have q0 := HX.out.q0; have q1 := HX.out.q1; have r0 := HX.out.r0; have r1 := HX.out.r1; have s0 := HX.out.s0; have s1 := HX.out.s1); go_ret; exact ⟨rfl, HX.out.be⟩
      case false =>
        rw [if_neg (by decide)] at h
        obtain ⟨b4, F4, h⟩ := Option.bind_eq_some_iff.1 h
        replace F4 := Aside0.mk F4
        cases b4
        case true =>
          obtain rfl := fin1 h
          (try clear h); clear fin1; go_enter Try.func51, Try.ntmps51; go_wp2_with (go_at_call 50; (first | (with_reducible refine (spec_l2On.calls _ _ _ _ _ _ _ _ F1.out).mono ?_) | (with_reducible refine (spec_l2On.calls _ _ _ _ _ _ _ _ F2.out).mono ?_) | (with_reducible refine (spec_l2On.calls _ _ _ _ _ _ _ _ F3.out).mono ?_) | (with_reducible refine (spec_l2On.calls _ _ _ _ _ _ _ _ F4.out).mono ?_)); rintro e wz ⟨rfl, hb⟩; have HX2 := Aside0.mk (HX.out.step hb); clear hb HX; have HX := HX2; clear HX2; have p0 := HX.out.p0; have p1 := HX.out.p1; have q0 := HX.out.q0; have q1 := HX.out.q1; have r0 := HX.out.r0; have r1 := HX.out.r1; have s0 := HX.out.s0; have s1 := HX.out.s1); go_ret; exact ⟨rfl, HX.out.be⟩
        case false =>
          clear fin1
          cases k with
          | zero => simp [spec_l31Meet.j0] at h
          | succ k =>
            rw [spec_l31Meet.j0, if_neg (by decide)] at h
            obtain ⟨t1, G1, h⟩ := Option.bind_eq_some_iff.1 h
            obtain ⟨t2, G2, h⟩ := Option.bind_eq_some_iff.1 h
            replace G1 := Aside0.mk G1
            replace G2 := Aside0.mk G2
            by_cases c : wrap64 (t1 * t2) < 0
            · rw [if_pos c] at h
              obtain ⟨t3, G3, h⟩ := Option.bind_eq_some_iff.1 h
              obtain ⟨t4, G4, h⟩ := Option.bind_eq_some_iff.1 h
              replace G3 := Aside0.mk G3
              replace G4 := Aside0.mk G4
              obtain rfl := Option.some.inj h
              have cb := decide_eq_true c
              clear h c
              go_enter Try.func51, Try.ntmps51
              go_wp2_with (go_at_call 50; (first | (with_reducible refine (spec_l2On.calls _ _ _ _ _ _ _ _ F1.out).mono ?_) | (with_reducible refine (spec_l2On.calls _ _ _ _ _ _ _ _ F2.out).mono ?_) | (with_reducible refine (spec_l2On.calls _ _ _ _ _ _ _ _ F3.out).mono ?_) | (with_reducible refine (spec_l2On.calls _ _ _ _ _ _ _ _ F4.out).mono ?_)); rintro e wz ⟨rfl, hb⟩; have HX2 := Aside0.mk (HX.out.step hb); clear hb HX; have HX := HX2; clear HX2; have p0 := HX.out.p0; have p1 := HX.out.p1; have q0 := HX.out.q0; have q1 := HX.out.q1; have r0 := HX.out.r0; have r1 := HX.out.r1; have s0 := HX.out.s0; have s1 := HX.out.s1)
              refine wpIn_wide (n := 0) |>.1 ?_
              have HF := wide_plain Try.prog
              obtain ⟨VS, hVS⟩ : ∃ VS : List (Option Tmp × Value), [(some 31, .agg #[.int .i64 a0_0, .int .i64 a0_1]), (some 32, .agg #[.int .i64 a1_0, .int .i64 a1_1]), (some 33, .agg #[.int .i64 a2_0, .int .i64 a2_1]), (some 34, .int .i64 t1), (some 35, .agg #[.int .i64 a0_0, .int .i64 a0_1]), (some 36, .agg #[.int .i64 a1_0, .int .i64 a1_1]), (some 37, .agg #[.int .i64 a3_0, .int .i64 a3_1]), (some 38, .int .i64 t2), (some 39, .int .i64 (wrap64 (t1 * t2))), (some 40, .bool true), (some 41, .bool true), (some 42, .agg #[.int .i64 a2_0, .int .i64 a2_1]), (some 43, .agg #[.int .i64 a3_0, .int .i64 a3_1]), (some 44, .agg #[.int .i64 a0_0, .int .i64 a0_1]), (some 45, .int .i64 t3), (some 46, .agg #[.int .i64 a2_0, .int .i64 a2_1]), (some 47, .agg #[.int .i64 a3_0, .int .i64 a3_1]), (some 48, .agg #[.int .i64 a1_0, .int .i64 a1_1]), (some 49, .int .i64 t4), (some 50, .int .i64 (wrap64 (t3 * t4))), (some 51, .bool (decide (wrap64 (t3 * t4) < 0))), (some 52, .bool (decide (wrap64 (t3 * t4) < 0))), (some 8, .bool (decide (wrap64 (t3 * t4) < 0)))] = VS := ⟨_, rfl⟩
              have HN : (VS.filterMap (·.1)).Nodup := by rw [← hVS]; exact (show List.Nodup [(31 : Tmp), (32 : Tmp), (33 : Tmp), (34 : Tmp), (35 : Tmp), (36 : Tmp), (37 : Tmp), (38 : Tmp), (39 : Tmp), (40 : Tmp), (41 : Tmp), (42 : Tmp), (43 : Tmp), (44 : Tmp), (45 : Tmp), (46 : Tmp), (47 : Tmp), (48 : Tmp), (49 : Tmp), (50 : Tmp), (51 : Tmp), (52 : Tmp), (8 : Tmp)] by decide)
              refine act_name fun A0 hA0 => ?_
              have hT_ : 52 < A0.tmps.size := by rw [← hA0]; simp
              have E4 : ∀ L : List Bool, (fill VS L A0).tmps[4]?.getD undef = .pointer (some ⟨w.heap.size, 0, none⟩) := fun L => fill_old _ _ _ qq49 (by rw [← hA0]; rfl)
              have E5 : ∀ L : List Bool, (fill VS L A0).tmps[5]?.getD undef = .pointer (some ⟨w.heap.size + 1, 0, none⟩) := fun L => fill_old _ _ _ qq50 (by rw [← hA0]; rfl)
              have E6 : ∀ L : List Bool, (fill VS L A0).tmps[6]?.getD undef = .pointer (some ⟨w.heap.size + 2, 0, none⟩) := fun L => fill_old _ _ _ qq51 (by rw [← hA0]; rfl)
              have E7 : ∀ L : List Bool, (fill VS L A0).tmps[7]?.getD undef = .pointer (some ⟨w.heap.size + 3, 0, none⟩) := fun L => fill_old _ _ _ qq52 (by rw [← hA0]; rfl)
              refine drawn_same (by kernel_rfl) (early_spec (by kernel_rfl)) VS (by rw [← hVS]; rfl) HN (fun w' => Bx w w' a0_0 a0_1 a1_0 a1_1 a2_0 a2_1 a3_0 a3_1) (HX.out.step ((Below.refl _ _).drew)) ?_ ?_
              · intro i o v L w' ho hv hpre hS K hK
                have hii : i = 0 ∨ i = 1 ∨ i = 2 ∨ i = 3 ∨ i = 4 ∨ i = 5 ∨ i = 6 ∨ i = 7 ∨ i = 8 ∨ i = 9 ∨ i = 10 ∨ i = 11 ∨ i = 12 ∨ i = 13 ∨ i = 14 ∨ i = 15 ∨ i = 16 ∨ i = 17 ∨ i = 18 ∨ i = 19 ∨ i = 20 ∨ i = 21 ∨ i = 22 := by have hq := (Array.getElem?_eq_some_iff.1 ho).1; simp at hq; omega
                rcases hii with rfl | rfl | rfl | rfl | rfl | rfl | rfl | rfl | rfl | rfl | rfl | rfl | rfl | rfl | rfl | rfl | rfl | rfl | rfl | rfl | rfl | rfl | rfl
                · obtain rfl := Option.some.inj ho
                  obtain rfl := vs_at hVS hv rfl
                  have e4 := E4 L
                  have c1 := hS.p0
                  have c2 := hS.p1
                  refine st_val HF rfl (by simp) rfl (w' := w') ?_ (hK w' hS)
                  generalize fill VS L A0 = A at e4 ⊢
                  simp [execOp, go_sem, i64_w, e4, c1, c2]
                · obtain rfl := Option.some.inj ho
                  obtain rfl := vs_at hVS hv rfl
                  have e5 := E5 L
                  have c1 := hS.q0
                  have c2 := hS.q1
                  refine st_val HF rfl (by simp) rfl (w' := w') ?_ (hK w' hS)
                  generalize fill VS L A0 = A at e5 ⊢
                  simp [execOp, go_sem, i64_w, e5, c1, c2]
                · obtain rfl := Option.some.inj ho
                  obtain rfl := vs_at hVS hv rfl
                  have e6 := E6 L
                  have c1 := hS.r0
                  have c2 := hS.r1
                  refine st_val HF rfl (by simp) rfl (w' := w') ?_ (hK w' hS)
                  generalize fill VS L A0 = A at e6 ⊢
                  simp [execOp, go_sem, i64_w, e6, c1, c2]
                · obtain rfl := Option.some.inj ho
                  obtain rfl := vs_at hVS hv rfl
                  have e31 := fill_get HN hVS hT_ (t := 31) (j := 0) rfl rfl (hpre ⟨0, .data⟩ (by simp) rfl)
                  have e32 := fill_get HN hVS hT_ (t := 32) (j := 1) rfl rfl (hpre ⟨1, .data⟩ (by simp) rfl)
                  have e33 := fill_get HN hVS hT_ (t := 33) (j := 2) rfl rfl (hpre ⟨2, .data⟩ (by simp) rfl)
                  refine st_call HF rfl (by simp) rfl (w := w') (f := 64) (args := #[.agg #[.int .i64 a0_0, .int .i64 a0_1], .agg #[.int .i64 a1_0, .int .i64 a1_1], .agg #[.int .i64 a2_0, .int .i64 a2_1]]) (v := .int .i64 t1) ?_ ?_
                  · generalize fill VS L A0 = A at e31 e32 e33 ⊢
                    simp [execOp, resolve, go_sem, e31, e32, e33]
                  · refine (spec_l31Side.calls _ _ _ _ _ _ _ w' G1.out).mono ?_; rintro e w2 ⟨rfl, hb2⟩; exact ⟨rfl, hK w2 (hS.step hb2)⟩
                · obtain rfl := Option.some.inj ho
                  obtain rfl := vs_at hVS hv rfl
                  have e4 := E4 L
                  have c1 := hS.p0
                  have c2 := hS.p1
                  refine st_val HF rfl (by simp) rfl (w' := w') ?_ (hK w' hS)
                  generalize fill VS L A0 = A at e4 ⊢
                  simp [execOp, go_sem, i64_w, e4, c1, c2]
                · obtain rfl := Option.some.inj ho
                  obtain rfl := vs_at hVS hv rfl
                  have e5 := E5 L
                  have c1 := hS.q0
                  have c2 := hS.q1
                  refine st_val HF rfl (by simp) rfl (w' := w') ?_ (hK w' hS)
                  generalize fill VS L A0 = A at e5 ⊢
                  simp [execOp, go_sem, i64_w, e5, c1, c2]
                · obtain rfl := Option.some.inj ho
                  obtain rfl := vs_at hVS hv rfl
                  have e7 := E7 L
                  have c1 := hS.s0
                  have c2 := hS.s1
                  refine st_val HF rfl (by simp) rfl (w' := w') ?_ (hK w' hS)
                  generalize fill VS L A0 = A at e7 ⊢
                  simp [execOp, go_sem, i64_w, e7, c1, c2]
                · obtain rfl := Option.some.inj ho
                  obtain rfl := vs_at hVS hv rfl
                  have e35 := fill_get HN hVS hT_ (t := 35) (j := 4) rfl rfl (hpre ⟨4, .data⟩ (by simp) rfl)
                  have e36 := fill_get HN hVS hT_ (t := 36) (j := 5) rfl rfl (hpre ⟨5, .data⟩ (by simp) rfl)
                  have e37 := fill_get HN hVS hT_ (t := 37) (j := 6) rfl rfl (hpre ⟨6, .data⟩ (by simp) rfl)
                  refine st_call HF rfl (by simp) rfl (w := w') (f := 64) (args := #[.agg #[.int .i64 a0_0, .int .i64 a0_1], .agg #[.int .i64 a1_0, .int .i64 a1_1], .agg #[.int .i64 a3_0, .int .i64 a3_1]]) (v := .int .i64 t2) ?_ ?_
                  · generalize fill VS L A0 = A at e35 e36 e37 ⊢
                    simp [execOp, resolve, go_sem, e35, e36, e37]
                  · refine (spec_l31Side.calls _ _ _ _ _ _ _ w' G2.out).mono ?_; rintro e w2 ⟨rfl, hb2⟩; exact ⟨rfl, hK w2 (hS.step hb2)⟩
                · obtain rfl := Option.some.inj ho
                  obtain rfl := vs_at hVS hv rfl
                  have e34 := fill_get HN hVS hT_ (t := 34) (j := 3) rfl rfl (hpre ⟨3, .data⟩ (by simp) rfl)
                  have e38 := fill_get HN hVS hT_ (t := 38) (j := 7) rfl rfl (hpre ⟨7, .data⟩ (by simp) rfl)
                  refine st_val HF rfl (by simp) rfl (w' := w') ?_ (hK w' hS)
                  generalize fill VS L A0 = A at e34 e38 ⊢
                  simp [execOp, go_sem, i64_w, e34, e38]
                · obtain rfl := Option.some.inj ho
                  obtain rfl := vs_at hVS hv rfl
                  have e39 := fill_get HN hVS hT_ (t := 39) (j := 8) rfl rfl (hpre ⟨8, .data⟩ (by simp) rfl)
                  have c1 := cb
                  refine st_val HF rfl (by simp) rfl (w' := w') ?_ (hK w' hS)
                  generalize fill VS L A0 = A at e39 ⊢
                  simp [execOp, go_sem, i64_w, e39, c1]
                · obtain rfl := Option.some.inj ho
                  obtain rfl := vs_at hVS hv rfl
                  have e40 := fill_get HN hVS hT_ (t := 40) (j := 9) rfl rfl (hpre ⟨9, .data⟩ (by simp) rfl)
                  refine st_val HF rfl (by simp) rfl (w' := w') ?_ (hK w' hS)
                  generalize fill VS L A0 = A at e40 ⊢
                  simp [execOp, go_sem, i64_w, e40]
                · obtain rfl := Option.some.inj ho
                  obtain rfl := vs_at hVS hv rfl
                  have eg := fill_get HN hVS hT_ (t := 41) (j := 10) rfl rfl (hpre ⟨10, .guard⟩ (by simp) rfl)
                  have e6 := E6 L
                  have c1 := hS.r0
                  have c2 := hS.r1
                  refine st_val HF rfl (by simp) ((wanted_is rfl rfl eg).trans rfl) (w' := w') ?_ (hK w' hS)
                  generalize fill VS L A0 = A at e6 ⊢
                  simp [execOp, go_sem, i64_w, e6, c1, c2]
                · obtain rfl := Option.some.inj ho
                  obtain rfl := vs_at hVS hv rfl
                  have eg := fill_get HN hVS hT_ (t := 41) (j := 10) rfl rfl (hpre ⟨10, .guard⟩ (by simp) rfl)
                  have e7 := E7 L
                  have c1 := hS.s0
                  have c2 := hS.s1
                  refine st_val HF rfl (by simp) ((wanted_is rfl rfl eg).trans rfl) (w' := w') ?_ (hK w' hS)
                  generalize fill VS L A0 = A at e7 ⊢
                  simp [execOp, go_sem, i64_w, e7, c1, c2]
                · obtain rfl := Option.some.inj ho
                  obtain rfl := vs_at hVS hv rfl
                  have eg := fill_get HN hVS hT_ (t := 41) (j := 10) rfl rfl (hpre ⟨10, .guard⟩ (by simp) rfl)
                  have e4 := E4 L
                  have c1 := hS.p0
                  have c2 := hS.p1
                  refine st_val HF rfl (by simp) ((wanted_is rfl rfl eg).trans rfl) (w' := w') ?_ (hK w' hS)
                  generalize fill VS L A0 = A at e4 ⊢
                  simp [execOp, go_sem, i64_w, e4, c1, c2]
                · obtain rfl := Option.some.inj ho
                  obtain rfl := vs_at hVS hv rfl
                  have eg := fill_get HN hVS hT_ (t := 41) (j := 10) rfl rfl (hpre ⟨10, .guard⟩ (by simp) rfl)
                  have e42 := fill_get HN hVS hT_ (t := 42) (j := 11) rfl rfl (hpre ⟨11, .data⟩ (by simp) rfl)
                  have e43 := fill_get HN hVS hT_ (t := 43) (j := 12) rfl rfl (hpre ⟨12, .data⟩ (by simp) rfl)
                  have e44 := fill_get HN hVS hT_ (t := 44) (j := 13) rfl rfl (hpre ⟨13, .data⟩ (by simp) rfl)
                  refine st_call HF rfl (by simp) ((wanted_is rfl rfl eg).trans rfl) (w := w') (f := 64) (args := #[.agg #[.int .i64 a2_0, .int .i64 a2_1], .agg #[.int .i64 a3_0, .int .i64 a3_1], .agg #[.int .i64 a0_0, .int .i64 a0_1]]) (v := .int .i64 t3) ?_ ?_
                  · generalize fill VS L A0 = A at e42 e43 e44 ⊢
                    simp [execOp, resolve, go_sem, e42, e43, e44]
                  · refine (spec_l31Side.calls _ _ _ _ _ _ _ w' G3.out).mono ?_; rintro e w2 ⟨rfl, hb2⟩; exact ⟨rfl, hK w2 (hS.step hb2)⟩
                · obtain rfl := Option.some.inj ho
                  obtain rfl := vs_at hVS hv rfl
                  have eg := fill_get HN hVS hT_ (t := 41) (j := 10) rfl rfl (hpre ⟨10, .guard⟩ (by simp) rfl)
                  have e6 := E6 L
                  have c1 := hS.r0
                  have c2 := hS.r1
                  refine st_val HF rfl (by simp) ((wanted_is rfl rfl eg).trans rfl) (w' := w') ?_ (hK w' hS)
                  generalize fill VS L A0 = A at e6 ⊢
                  simp [execOp, go_sem, i64_w, e6, c1, c2]
                · obtain rfl := Option.some.inj ho
                  obtain rfl := vs_at hVS hv rfl
                  have eg := fill_get HN hVS hT_ (t := 41) (j := 10) rfl rfl (hpre ⟨10, .guard⟩ (by simp) rfl)
                  have e7 := E7 L
                  have c1 := hS.s0
                  have c2 := hS.s1
                  refine st_val HF rfl (by simp) ((wanted_is rfl rfl eg).trans rfl) (w' := w') ?_ (hK w' hS)
                  generalize fill VS L A0 = A at e7 ⊢
                  simp [execOp, go_sem, i64_w, e7, c1, c2]
                · obtain rfl := Option.some.inj ho
                  obtain rfl := vs_at hVS hv rfl
                  have eg := fill_get HN hVS hT_ (t := 41) (j := 10) rfl rfl (hpre ⟨10, .guard⟩ (by simp) rfl)
                  have e5 := E5 L
                  have c1 := hS.q0
                  have c2 := hS.q1
                  refine st_val HF rfl (by simp) ((wanted_is rfl rfl eg).trans rfl) (w' := w') ?_ (hK w' hS)
                  generalize fill VS L A0 = A at e5 ⊢
                  simp [execOp, go_sem, i64_w, e5, c1, c2]
                · obtain rfl := Option.some.inj ho
                  obtain rfl := vs_at hVS hv rfl
                  have eg := fill_get HN hVS hT_ (t := 41) (j := 10) rfl rfl (hpre ⟨10, .guard⟩ (by simp) rfl)
                  have e46 := fill_get HN hVS hT_ (t := 46) (j := 15) rfl rfl (hpre ⟨15, .data⟩ (by simp) rfl)
                  have e47 := fill_get HN hVS hT_ (t := 47) (j := 16) rfl rfl (hpre ⟨16, .data⟩ (by simp) rfl)
                  have e48 := fill_get HN hVS hT_ (t := 48) (j := 17) rfl rfl (hpre ⟨17, .data⟩ (by simp) rfl)
                  refine st_call HF rfl (by simp) ((wanted_is rfl rfl eg).trans rfl) (w := w') (f := 64) (args := #[.agg #[.int .i64 a2_0, .int .i64 a2_1], .agg #[.int .i64 a3_0, .int .i64 a3_1], .agg #[.int .i64 a1_0, .int .i64 a1_1]]) (v := .int .i64 t4) ?_ ?_
                  · generalize fill VS L A0 = A at e46 e47 e48 ⊢
                    simp [execOp, resolve, go_sem, e46, e47, e48]
                  · refine (spec_l31Side.calls _ _ _ _ _ _ _ w' G4.out).mono ?_; rintro e w2 ⟨rfl, hb2⟩; exact ⟨rfl, hK w2 (hS.step hb2)⟩
                · obtain rfl := Option.some.inj ho
                  obtain rfl := vs_at hVS hv rfl
                  have eg := fill_get HN hVS hT_ (t := 41) (j := 10) rfl rfl (hpre ⟨10, .guard⟩ (by simp) rfl)
                  have e45 := fill_get HN hVS hT_ (t := 45) (j := 14) rfl rfl (hpre ⟨14, .data⟩ (by simp) rfl)
                  have e49 := fill_get HN hVS hT_ (t := 49) (j := 18) rfl rfl (hpre ⟨18, .data⟩ (by simp) rfl)
                  refine st_val HF rfl (by simp) ((wanted_is rfl rfl eg).trans rfl) (w' := w') ?_ (hK w' hS)
                  generalize fill VS L A0 = A at e45 e49 ⊢
                  simp [execOp, go_sem, i64_w, e45, e49]
                · obtain rfl := Option.some.inj ho
                  obtain rfl := vs_at hVS hv rfl
                  have eg := fill_get HN hVS hT_ (t := 41) (j := 10) rfl rfl (hpre ⟨10, .guard⟩ (by simp) rfl)
                  have e50 := fill_get HN hVS hT_ (t := 50) (j := 19) rfl rfl (hpre ⟨19, .data⟩ (by simp) rfl)
                  refine st_val HF rfl (by simp) ((wanted_is rfl rfl eg).trans rfl) (w' := w') ?_ (hK w' hS)
                  generalize fill VS L A0 = A at e50 ⊢
                  simp [execOp, go_sem, i64_w, e50]
                · obtain rfl := Option.some.inj ho
                  obtain rfl := vs_at hVS hv rfl
                  have e41 := fill_get HN hVS hT_ (t := 41) (j := 10) rfl rfl (hpre ⟨10, .data⟩ (by simp) rfl)
                  have e51 := fill_get HN hVS hT_ (t := 51) (j := 20) rfl rfl (hpre ⟨20, .data⟩ (by simp) rfl)
                  refine st_val HF rfl (by simp) rfl (w' := w') ?_ (hK w' hS)
                  generalize fill VS L A0 = A at e41 e51 ⊢
                  simp [execOp, go_sem, i64_w, e41, e51]
                · obtain rfl := Option.some.inj ho
                  obtain rfl := vs_at hVS hv rfl
                  have e52 := fill_get HN hVS hT_ (t := 52) (j := 21) rfl rfl (hpre ⟨21, .data⟩ (by simp) rfl)
                  refine st_val HF rfl (by simp) rfl (w' := w') ?_ (hK w' hS)
                  generalize fill VS L A0 = A at e52 ⊢
                  simp [execOp, go_sem, i64_w, e52]
              · intro w' hS'
                rw [← hVS, ← hA0]
                simp only [List.size_toArray, List.length_cons, List.length_nil, Nat.reduceAdd, List.replicate, fill, if_true, Act.put, List.setIfInBounds_toArray, List.set_cons_succ, List.set_cons_zero]
                clear HN E4 E5 E6 E7 hVS hA0 hT_
                have HX := Aside0.mk hS'
                clear hS'
                go_wp2
                go_ret
                exact ⟨rfl, HX.out.be⟩
            · rw [if_neg c] at h
              obtain rfl := Option.some.inj h
              have cb := decide_eq_false c
              clear h c
              go_enter Try.func51, Try.ntmps51
              go_wp2_with (go_at_call 50; (first | (with_reducible refine (spec_l2On.calls _ _ _ _ _ _ _ _ F1.out).mono ?_) | (with_reducible refine (spec_l2On.calls _ _ _ _ _ _ _ _ F2.out).mono ?_) | (with_reducible refine (spec_l2On.calls _ _ _ _ _ _ _ _ F3.out).mono ?_) | (with_reducible refine (spec_l2On.calls _ _ _ _ _ _ _ _ F4.out).mono ?_)); rintro e wz ⟨rfl, hb⟩; have HX2 := Aside0.mk (HX.out.step hb); clear hb HX; have HX := HX2; clear HX2; have p0 := HX.out.p0; have p1 := HX.out.p1; have q0 := HX.out.q0; have q1 := HX.out.q1; have r0 := HX.out.r0; have r1 := HX.out.r1; have s0 := HX.out.s0; have s1 := HX.out.s1)
              refine wpIn_wide (n := 0) |>.1 ?_
              have HF := wide_plain Try.prog
              obtain ⟨VS, hVS⟩ : ∃ VS : List (Option Tmp × Value), [(some 31, .agg #[.int .i64 a0_0, .int .i64 a0_1]), (some 32, .agg #[.int .i64 a1_0, .int .i64 a1_1]), (some 33, .agg #[.int .i64 a2_0, .int .i64 a2_1]), (some 34, .int .i64 t1), (some 35, .agg #[.int .i64 a0_0, .int .i64 a0_1]), (some 36, .agg #[.int .i64 a1_0, .int .i64 a1_1]), (some 37, .agg #[.int .i64 a3_0, .int .i64 a3_1]), (some 38, .int .i64 t2), (some 39, .int .i64 (wrap64 (t1 * t2))), (some 40, .bool false), (some 41, .bool false), (some 42, undef), (some 43, undef), (some 44, undef), (some 45, undef), (some 46, undef), (some 47, undef), (some 48, undef), (some 49, undef), (some 50, undef), (some 51, undef), (some 52, .bool false), (some 8, .bool false)] = VS := ⟨_, rfl⟩
              have HN : (VS.filterMap (·.1)).Nodup := by rw [← hVS]; exact (show List.Nodup [(31 : Tmp), (32 : Tmp), (33 : Tmp), (34 : Tmp), (35 : Tmp), (36 : Tmp), (37 : Tmp), (38 : Tmp), (39 : Tmp), (40 : Tmp), (41 : Tmp), (42 : Tmp), (43 : Tmp), (44 : Tmp), (45 : Tmp), (46 : Tmp), (47 : Tmp), (48 : Tmp), (49 : Tmp), (50 : Tmp), (51 : Tmp), (52 : Tmp), (8 : Tmp)] by decide)
              refine act_name fun A0 hA0 => ?_
              have hT_ : 52 < A0.tmps.size := by rw [← hA0]; simp
              have E4 : ∀ L : List Bool, (fill VS L A0).tmps[4]?.getD undef = .pointer (some ⟨w.heap.size, 0, none⟩) := fun L => fill_old _ _ _ qq49 (by rw [← hA0]; rfl)
              have E5 : ∀ L : List Bool, (fill VS L A0).tmps[5]?.getD undef = .pointer (some ⟨w.heap.size + 1, 0, none⟩) := fun L => fill_old _ _ _ qq50 (by rw [← hA0]; rfl)
              have E6 : ∀ L : List Bool, (fill VS L A0).tmps[6]?.getD undef = .pointer (some ⟨w.heap.size + 2, 0, none⟩) := fun L => fill_old _ _ _ qq51 (by rw [← hA0]; rfl)
              have E7 : ∀ L : List Bool, (fill VS L A0).tmps[7]?.getD undef = .pointer (some ⟨w.heap.size + 3, 0, none⟩) := fun L => fill_old _ _ _ qq52 (by rw [← hA0]; rfl)
              refine drawn_same (by kernel_rfl) (early_spec (by kernel_rfl)) VS (by rw [← hVS]; rfl) HN (fun w' => Bx w w' a0_0 a0_1 a1_0 a1_1 a2_0 a2_1 a3_0 a3_1) (HX.out.step ((Below.refl _ _).drew)) ?_ ?_
              · intro i o v L w' ho hv hpre hS K hK
                have hii : i = 0 ∨ i = 1 ∨ i = 2 ∨ i = 3 ∨ i = 4 ∨ i = 5 ∨ i = 6 ∨ i = 7 ∨ i = 8 ∨ i = 9 ∨ i = 10 ∨ i = 11 ∨ i = 12 ∨ i = 13 ∨ i = 14 ∨ i = 15 ∨ i = 16 ∨ i = 17 ∨ i = 18 ∨ i = 19 ∨ i = 20 ∨ i = 21 ∨ i = 22 := by have hq := (Array.getElem?_eq_some_iff.1 ho).1; simp at hq; omega
                rcases hii with rfl | rfl | rfl | rfl | rfl | rfl | rfl | rfl | rfl | rfl | rfl | rfl | rfl | rfl | rfl | rfl | rfl | rfl | rfl | rfl | rfl | rfl | rfl
                · obtain rfl := Option.some.inj ho
                  obtain rfl := vs_at hVS hv rfl
                  have e4 := E4 L
                  have c1 := hS.p0
                  have c2 := hS.p1
                  refine st_val HF rfl (by simp) rfl (w' := w') ?_ (hK w' hS)
                  generalize fill VS L A0 = A at e4 ⊢
                  simp [execOp, go_sem, i64_w, e4, c1, c2]
                · obtain rfl := Option.some.inj ho
                  obtain rfl := vs_at hVS hv rfl
                  have e5 := E5 L
                  have c1 := hS.q0
                  have c2 := hS.q1
                  refine st_val HF rfl (by simp) rfl (w' := w') ?_ (hK w' hS)
                  generalize fill VS L A0 = A at e5 ⊢
                  simp [execOp, go_sem, i64_w, e5, c1, c2]
                · obtain rfl := Option.some.inj ho
                  obtain rfl := vs_at hVS hv rfl
                  have e6 := E6 L
                  have c1 := hS.r0
                  have c2 := hS.r1
                  refine st_val HF rfl (by simp) rfl (w' := w') ?_ (hK w' hS)
                  generalize fill VS L A0 = A at e6 ⊢
                  simp [execOp, go_sem, i64_w, e6, c1, c2]
                · obtain rfl := Option.some.inj ho
                  obtain rfl := vs_at hVS hv rfl
                  have e31 := fill_get HN hVS hT_ (t := 31) (j := 0) rfl rfl (hpre ⟨0, .data⟩ (by simp) rfl)
                  have e32 := fill_get HN hVS hT_ (t := 32) (j := 1) rfl rfl (hpre ⟨1, .data⟩ (by simp) rfl)
                  have e33 := fill_get HN hVS hT_ (t := 33) (j := 2) rfl rfl (hpre ⟨2, .data⟩ (by simp) rfl)
                  refine st_call HF rfl (by simp) rfl (w := w') (f := 64) (args := #[.agg #[.int .i64 a0_0, .int .i64 a0_1], .agg #[.int .i64 a1_0, .int .i64 a1_1], .agg #[.int .i64 a2_0, .int .i64 a2_1]]) (v := .int .i64 t1) ?_ ?_
                  · generalize fill VS L A0 = A at e31 e32 e33 ⊢
                    simp [execOp, resolve, go_sem, e31, e32, e33]
                  · refine (spec_l31Side.calls _ _ _ _ _ _ _ w' G1.out).mono ?_; rintro e w2 ⟨rfl, hb2⟩; exact ⟨rfl, hK w2 (hS.step hb2)⟩
                · obtain rfl := Option.some.inj ho
                  obtain rfl := vs_at hVS hv rfl
                  have e4 := E4 L
                  have c1 := hS.p0
                  have c2 := hS.p1
                  refine st_val HF rfl (by simp) rfl (w' := w') ?_ (hK w' hS)
                  generalize fill VS L A0 = A at e4 ⊢
                  simp [execOp, go_sem, i64_w, e4, c1, c2]
                · obtain rfl := Option.some.inj ho
                  obtain rfl := vs_at hVS hv rfl
                  have e5 := E5 L
                  have c1 := hS.q0
                  have c2 := hS.q1
                  refine st_val HF rfl (by simp) rfl (w' := w') ?_ (hK w' hS)
                  generalize fill VS L A0 = A at e5 ⊢
                  simp [execOp, go_sem, i64_w, e5, c1, c2]
                · obtain rfl := Option.some.inj ho
                  obtain rfl := vs_at hVS hv rfl
                  have e7 := E7 L
                  have c1 := hS.s0
                  have c2 := hS.s1
                  refine st_val HF rfl (by simp) rfl (w' := w') ?_ (hK w' hS)
                  generalize fill VS L A0 = A at e7 ⊢
                  simp [execOp, go_sem, i64_w, e7, c1, c2]
                · obtain rfl := Option.some.inj ho
                  obtain rfl := vs_at hVS hv rfl
                  have e35 := fill_get HN hVS hT_ (t := 35) (j := 4) rfl rfl (hpre ⟨4, .data⟩ (by simp) rfl)
                  have e36 := fill_get HN hVS hT_ (t := 36) (j := 5) rfl rfl (hpre ⟨5, .data⟩ (by simp) rfl)
                  have e37 := fill_get HN hVS hT_ (t := 37) (j := 6) rfl rfl (hpre ⟨6, .data⟩ (by simp) rfl)
                  refine st_call HF rfl (by simp) rfl (w := w') (f := 64) (args := #[.agg #[.int .i64 a0_0, .int .i64 a0_1], .agg #[.int .i64 a1_0, .int .i64 a1_1], .agg #[.int .i64 a3_0, .int .i64 a3_1]]) (v := .int .i64 t2) ?_ ?_
                  · generalize fill VS L A0 = A at e35 e36 e37 ⊢
                    simp [execOp, resolve, go_sem, e35, e36, e37]
                  · refine (spec_l31Side.calls _ _ _ _ _ _ _ w' G2.out).mono ?_; rintro e w2 ⟨rfl, hb2⟩; exact ⟨rfl, hK w2 (hS.step hb2)⟩
                · obtain rfl := Option.some.inj ho
                  obtain rfl := vs_at hVS hv rfl
                  have e34 := fill_get HN hVS hT_ (t := 34) (j := 3) rfl rfl (hpre ⟨3, .data⟩ (by simp) rfl)
                  have e38 := fill_get HN hVS hT_ (t := 38) (j := 7) rfl rfl (hpre ⟨7, .data⟩ (by simp) rfl)
                  refine st_val HF rfl (by simp) rfl (w' := w') ?_ (hK w' hS)
                  generalize fill VS L A0 = A at e34 e38 ⊢
                  simp [execOp, go_sem, i64_w, e34, e38]
                · obtain rfl := Option.some.inj ho
                  obtain rfl := vs_at hVS hv rfl
                  have e39 := fill_get HN hVS hT_ (t := 39) (j := 8) rfl rfl (hpre ⟨8, .data⟩ (by simp) rfl)
                  have c1 := cb
                  refine st_val HF rfl (by simp) rfl (w' := w') ?_ (hK w' hS)
                  generalize fill VS L A0 = A at e39 ⊢
                  simp [execOp, go_sem, i64_w, e39, c1]
                · obtain rfl := Option.some.inj ho
                  obtain rfl := vs_at hVS hv rfl
                  have e40 := fill_get HN hVS hT_ (t := 40) (j := 9) rfl rfl (hpre ⟨9, .data⟩ (by simp) rfl)
                  refine st_val HF rfl (by simp) rfl (w' := w') ?_ (hK w' hS)
                  generalize fill VS L A0 = A at e40 ⊢
                  simp [execOp, go_sem, i64_w, e40]
                · obtain rfl := Option.some.inj ho
                  obtain rfl := vs_at hVS hv rfl
                  have eg := fill_get HN hVS hT_ (t := 41) (j := 10) rfl rfl (hpre ⟨10, .guard⟩ (by simp) rfl)
                  exact st_unwanted HF rfl ((wanted_is rfl rfl eg).trans rfl) (hK w' hS)
                · obtain rfl := Option.some.inj ho
                  obtain rfl := vs_at hVS hv rfl
                  have eg := fill_get HN hVS hT_ (t := 41) (j := 10) rfl rfl (hpre ⟨10, .guard⟩ (by simp) rfl)
                  exact st_unwanted HF rfl ((wanted_is rfl rfl eg).trans rfl) (hK w' hS)
                · obtain rfl := Option.some.inj ho
                  obtain rfl := vs_at hVS hv rfl
                  have eg := fill_get HN hVS hT_ (t := 41) (j := 10) rfl rfl (hpre ⟨10, .guard⟩ (by simp) rfl)
                  exact st_unwanted HF rfl ((wanted_is rfl rfl eg).trans rfl) (hK w' hS)
                · obtain rfl := Option.some.inj ho
                  obtain rfl := vs_at hVS hv rfl
                  have eg := fill_get HN hVS hT_ (t := 41) (j := 10) rfl rfl (hpre ⟨10, .guard⟩ (by simp) rfl)
                  exact st_unwanted HF rfl ((wanted_is rfl rfl eg).trans rfl) (hK w' hS)
                · obtain rfl := Option.some.inj ho
                  obtain rfl := vs_at hVS hv rfl
                  have eg := fill_get HN hVS hT_ (t := 41) (j := 10) rfl rfl (hpre ⟨10, .guard⟩ (by simp) rfl)
                  exact st_unwanted HF rfl ((wanted_is rfl rfl eg).trans rfl) (hK w' hS)
                · obtain rfl := Option.some.inj ho
                  obtain rfl := vs_at hVS hv rfl
                  have eg := fill_get HN hVS hT_ (t := 41) (j := 10) rfl rfl (hpre ⟨10, .guard⟩ (by simp) rfl)
                  exact st_unwanted HF rfl ((wanted_is rfl rfl eg).trans rfl) (hK w' hS)
                · obtain rfl := Option.some.inj ho
                  obtain rfl := vs_at hVS hv rfl
                  have eg := fill_get HN hVS hT_ (t := 41) (j := 10) rfl rfl (hpre ⟨10, .guard⟩ (by simp) rfl)
                  exact st_unwanted HF rfl ((wanted_is rfl rfl eg).trans rfl) (hK w' hS)
                · obtain rfl := Option.some.inj ho
                  obtain rfl := vs_at hVS hv rfl
                  have eg := fill_get HN hVS hT_ (t := 41) (j := 10) rfl rfl (hpre ⟨10, .guard⟩ (by simp) rfl)
                  exact st_unwanted HF rfl ((wanted_is rfl rfl eg).trans rfl) (hK w' hS)
                · obtain rfl := Option.some.inj ho
                  obtain rfl := vs_at hVS hv rfl
                  have eg := fill_get HN hVS hT_ (t := 41) (j := 10) rfl rfl (hpre ⟨10, .guard⟩ (by simp) rfl)
                  exact st_unwanted HF rfl ((wanted_is rfl rfl eg).trans rfl) (hK w' hS)
                · obtain rfl := Option.some.inj ho
                  obtain rfl := vs_at hVS hv rfl
                  have eg := fill_get HN hVS hT_ (t := 41) (j := 10) rfl rfl (hpre ⟨10, .guard⟩ (by simp) rfl)
                  exact st_unwanted HF rfl ((wanted_is rfl rfl eg).trans rfl) (hK w' hS)
                · obtain rfl := Option.some.inj ho
                  obtain rfl := vs_at hVS hv rfl
                  have e41 := fill_get HN hVS hT_ (t := 41) (j := 10) rfl rfl (hpre ⟨10, .data⟩ (by simp) rfl)
                  have e51 := fill_get HN hVS hT_ (t := 51) (j := 20) rfl rfl (hpre ⟨20, .data⟩ (by simp) rfl)
                  refine st_val HF rfl (by simp) rfl (w' := w') ?_ (hK w' hS)
                  generalize fill VS L A0 = A at e41 e51 ⊢
                  simp [execOp, go_sem, i64_w, e41, e51]
                · obtain rfl := Option.some.inj ho
                  obtain rfl := vs_at hVS hv rfl
                  have e52 := fill_get HN hVS hT_ (t := 52) (j := 21) rfl rfl (hpre ⟨21, .data⟩ (by simp) rfl)
                  refine st_val HF rfl (by simp) rfl (w' := w') ?_ (hK w' hS)
                  generalize fill VS L A0 = A at e52 ⊢
                  simp [execOp, go_sem, i64_w, e52]
              · intro w' hS'
                rw [← hVS, ← hA0]
                simp only [List.size_toArray, List.length_cons, List.length_nil, Nat.reduceAdd, List.replicate, fill, if_true, Act.put, List.setIfInBounds_toArray, List.set_cons_succ, List.set_cons_zero]
                clear HN E4 E5 E6 E7 hVS hA0 hT_
                have HX := Aside0.mk hS'
                clear hS'
                go_wp2
                go_ret
                exact ⟨rfl, HX.out.be⟩

end Go.Proofs.Ytgdhgncdpmalcaa.Q
namespace Go.Proofs.Ytgdhgncdpmalcaa.Ring
open Go.RowKit Go.Shelf Go.Proofs.Ytgdhgncdpmalcaa.Q Go.Proofs.Ytgdhgncdpmalcaa.Drawn Go.Proofs.YtgdhgncdpmalcaaW.PrintWords Go.Proofs.YtgdhgncdpmalcaaW.PrintLast Go.Proofs.YtgdhgncdpmalcaaW.PrintMore
theorem pv_at {l : List Pt} (h : Pure.cvB l = true) {j : Nat} (hj : j < l.length) : Pure.PV (at_ l j).f0 (at_ l j).f1 = true := by
  have := Pure.ptB_iff.1 ((Pure.cvB_iff.1 h).2 (at_ l j) (by unfold at_; rw [List.getD_eq_getElem?_getD, List.getElem?_eq_getElem hj]; exact List.getElem_mem hj))
  exact Pure.PV_iff.2 ⟨this.1.1, this.1.2, this.2.1, this.2.2⟩
def PVP (p : Pt) : Prop := Pure.PV p.f0 p.f1 = true
theorem on_f {p q r : Pt} (hp : PVP p) (hq : PVP q) (hr : PVP r) : spec_l2On.f p.f0 p.f1 q.f0 q.f1 r.f0 r.f1 = some (onPt p q r) := by
  rw [Pure.spec_l2On_eq hp hq hr]
  unfold onPt Pure.onR
  congr 1
  rw [decide_eq_decide]
  exact ⟨fun h => ⟨hp, hq, hr, h⟩, fun h => h.2.2.2⟩
theorem side_f {p q r : Pt} (hp : PVP p) (hq : PVP q) (hr : PVP r) : spec_l31Side.f p.f0 p.f1 q.f0 q.f1 r.f0 r.f1 = some (sgnP p q r) := by
  unfold spec_l31Side.f
  rw [Pure.spec_l2Step_eq hp hq, Pure.spec_l2Step_eq hp hr]
  simp only [Option.bind_some]
  rw [Pure.spec_cross_eq hp hq hr]
  simp only [Option.bind_some]
  rw [Pure.l1Sign_eq]
  simp only [Option.bind_some]
  unfold sgnP
  rw [Pure.sideR_yes hp hq hr]
theorem sgn_mul (p q r p' q' r' : Pt) : wrap64 (sgnP p q r * sgnP p' q' r') = sgnP p q r * sgnP p' q' r' := by
  obtain ⟨a, b⟩ := sgnP_bd p q r
  obtain ⟨c, d⟩ := sgnP_bd p' q' r'
  generalize sgnP p q r = x at *
  generalize sgnP p' q' r' = y at *
  have hx : x = -1 ∨ x = 0 ∨ x = 1 := by omega
  have hy : y = -1 ∨ y = 0 ∨ y = 1 := by omega
  rcases hx with rfl | rfl | rfl <;> rcases hy with rfl | rfl | rfl <;> exact Pure.pw64 (by decide) (by decide)
theorem meet_f {a b c d : Pt} (ha : PVP a) (hb : PVP b) (hc : PVP c) (hd : PVP d) : spec_l31Meet.f 1 a.f0 a.f1 b.f0 b.f1 c.f0 c.f1 d.f0 d.f1 = some (meetPt a b c d) := by
  unfold spec_l31Meet.f
  rw [on_f ha hb hc, on_f ha hb hd, on_f hc hd ha, on_f hc hd hb]
  simp only [Option.bind_some, spec_l31Meet.j0]
  rw [side_f ha hb hc, side_f ha hb hd, side_f hc hd ha, side_f hc hd hb]
  simp only [Option.bind_some, sgn_mul]
  unfold meetPt
  cases onPt a b c
  · cases onPt a b d
    · cases onPt c d a
      · cases onPt c d b
        · simp only [Bool.false_eq_true, if_false, Bool.false_or]
          by_cases h : sgnP a b c * sgnP a b d < 0
          · rw [if_pos h, decide_eq_true h, Bool.true_and]
          · rw [if_neg h, decide_eq_false h, Bool.false_and]
        · rfl
      · rfl
    · rfl
  · rfl
end Go.Proofs.Ytgdhgncdpmalcaa.Ring
namespace Go.Proofs.Ytgdhgncdpmalcaa.Pure
open Go.RowKit Go.Proofs.Ytgdhgncdpmalcaa.Q Go.Proofs.YtgdhgncdpmalcaaW.PrintWords Go.Proofs.YtgdhgncdpmalcaaW.PrintLast
theorem p6In_eq (a b c : Int) : spec_l6In.f a b c = some (decide (b ≤ a ∧ a ≤ c)) := by
  unfold spec_l6In.f
  by_cases h : a ≥ b
  · rw [if_pos h]; congr 1; rw [decide_eq_decide]; omega
  · rw [if_neg h]; congr 1; symm; rw [decide_eq_false_iff_not]; omega
theorem spec_PtValid_eq (p : Pt) : spec_PointValid.f p.f0 p.f1 = some (ptB p) := by
  simp only [spec_PointValid.f, p6In_eq, Option.bind_some]
  unfold ptB
  by_cases h : -10000 ≤ p.f0 ∧ p.f0 ≤ 10000
  · rw [if_pos (by simpa using h)]; congr 1; rw [decide_eq_decide]; exact ⟨fun q => ⟨h, q⟩, fun q => q.2⟩
  · rw [if_neg (by simpa using h)]; congr 1; symm; rw [decide_eq_false_iff_not]; exact fun q => h q.1
theorem l31Points_l0 {l : List Pt} (hl : l.length ≤ 4611686018427387903) (suf : List Pt) : ∀ (pre : List Pt) (k : Nat), suf.length < k → l = pre ++ suf →
    spec_l31Points.l0 k l (pre.length : Int) = some (suf.all ptB && decide (3 ≤ l.length ∧ l.length ≤ 12)) := by
  induction suf with
  | nil =>
    intro pre k hk he
    obtain ⟨k, rfl⟩ : ∃ m, k = m + 1 := ⟨k - 1, by omega⟩
    rw [List.append_nil] at he
    subst he
    rw [spec_l31Points.l0, if_neg (by omega), p6In_eq]
    simp only [Option.bind_some, List.all_nil, Bool.true_and]
    congr 1; rw [decide_eq_decide]; omega
  | cons y suf ih =>
    intro pre k hk he
    rw [List.length_cons] at hk
    obtain ⟨k, rfl⟩ : ∃ m, k = m + 1 := ⟨k - 1, by omega⟩
    have hlen : l.length = pre.length + suf.length + 1 := by rw [he]; simp; omega
    have hy : rd_T32 l (pre.length : Int) = y := by rw [he]; exact rd_midP pre suf y
    rw [spec_l31Points.l0, if_pos (by omega), if_pos (by omega), hy, spec_PtValid_eq]
    simp only [Option.bind_some, List.all_cons]
    by_cases h : ptB y = true
    · rw [if_pos h, next_midP pre y (by omega), ih (pre ++ [y]) k (by omega) (by rw [he]; simp), h, Bool.true_and]
    · rw [if_neg h, Bool.eq_false_iff.2 h, Bool.false_and, Bool.false_and]
theorem l31Points_eq (k : Nat) (l : List Pt) (hl : l.length ≤ 1048576) (hk : l.length < k) : spec_l31Points.f k l = some (cvB l) := by
  unfold spec_l31Points.f cvB
  have := l31Points_l0 (l := l) (by omega) l [] k hk rfl
  rw [Bool.and_comm] at this
  simpa using this
end Go.Proofs.Ytgdhgncdpmalcaa.Pure
namespace Go.Proofs.Ytgdhgncdpmalcaa.Ring
open Go.RowKit Go.Shelf Go.Proofs.Ytgdhgncdpmalcaa.Q Go.Proofs.Ytgdhgncdpmalcaa.Drawn Go.Proofs.YtgdhgncdpmalcaaW.PrintWords Go.Proofs.YtgdhgncdpmalcaaW.PrintLast Go.Proofs.YtgdhgncdpmalcaaW.PrintMore
set_option linter.unusedVariables false
set_option linter.unusedSimpArgs false
/-- A goal at which a walk stands still. -/
structure Halted (p : Prop) : Prop where
  intro ::
  out : p
/-- What the reference asks of the sides i and k. -/
def badAt (l : List Pt) (i k : Nat) : Bool :=
  if k = i + 1 then sameP (at_ l k) (at_ l i) || sameP (nxt l k) (at_ l k) || onPt (at_ l i) (nxt l i) (nxt l k) || onPt (at_ l k) (nxt l k) (at_ l i)
  else if (k + 1) % l.length = i then onPt (at_ l k) (nxt l k) (nxt l i) || onPt (at_ l i) (nxt l i) (at_ l k)
  else meetPt (at_ l i) (nxt l i) (at_ l k) (nxt l k)
def pairsB (l : List Pt) : Bool := decide (∀ i, i < l.length → ∀ k, k < l.length → i < k → badAt l i k = false)
theorem pairs_bad {l : List Pt} {i k : Nat} (hi : i < l.length) (hk : k < l.length) (hik : i < k) (h : badAt l i k = true) : pairsB l = false :=
  decide_eq_false fun c => by rw [c i hi k hk hik] at h; exact absurd h (by decide)
theorem box_stored {W wS : World} {g : Nat} {t : TypeId} {x y u v : Value} (hb : W.heap[g]? = some (.cells #[u, v] t (0, 0))) (h : wS = (W.setCell ⟨g, 0, none⟩ x).setCell ⟨g, 1, none⟩ y) :
    wS.heap[g]? = some (.cells #[x, y] t (0, 0)) ∧ (∀ g' cs, g' ≠ g → W.heap[g']? = some (.cells cs t (0, 0)) → wS.heap[g']? = some (.cells cs t (0, 0))) ∧ (∀ w : World, Below w.heap.size w W → w.heap.size ≤ g → Below w.heap.size w wS) := by
  subst h
  exact ⟨blk_put (blk_put hb 0 x rfl) 1 y rfl, fun g' o hne hg => blk_far (blk_far hg hne x) hne y, fun w hb hg => below_set (below_set hb hg) hg⟩
theorem rd_below {w W : World} {ad : Addr} {l : List Pt} (hr : Kd.C k32 w (some ad) l.length l) (hb : Below w.heap.size w W) {j : Nat} (hj : j < l.length) :
    W.cell? (ad.add (j * 2)) = some (.int .i64 (at_ l j).f0) ∧ W.cell? ⟨(ad.add (j * 2)).block, (ad.add (j * 2)).off + 1, none⟩ = some (.int .i64 (at_ l j).f1) := by
  obtain ⟨ad1, e1, hx1, hy1⟩ := at_T32 hr (j : Int) (by omega) (by omega)
  cases e1
  rw [Int.toNat_natCast, at_rd] at hx1 hy1
  exact ⟨(hb.cell (World.block_lt_of_cell? w _ hx1)).trans hx1, (hb.cell (World.block_lt_of_cell? w _ hy1)).trans hy1⟩
theorem same_run {p q : Pt} {b : Bool} (h : sameP p q = b) (d : Nat) (w : World) : (Op.equalIn (d + 2) 32 (.agg #[.int .i64 p.f0, .int .i64 p.f1]) (.agg #[.int .i64 q.f0, .int .i64 q.f1])).run Try.prog w = .ok b w := by
  rw [run_samePt, ← h]; rfl
attribute [local irreducible] at_ nxt onPt meetPt sameP
set_option maxRecDepth 100000 in
set_option maxHeartbeats 4000000 in
theorem specValid_yes (A0 : Option Addr) (c0 : Nat) (l0 : List Pt) (w : World) (hr0 : Kd.C k32 w A0 l0.length l0) (hc0 : l0.length ≤ c0) (hcv : Pure.cvB l0 = true) :
    Calls Try.prog 19 #[.slice A0 l0.length c0] w fun e w' => e = .returned (.bool (pairsB l0)) ∧ Below w.heap.size w w' := by
  have h3 := (Pure.cvB_iff.1 hcv).1.1
  have h12 := (Pure.cvB_iff.1 hcv).1.2
  have hpts := (Pure.l31Points_eq 20 l0 (by omega) (by omega)).trans (congrArg some hcv)
  have hnz0 : ¬ (l0.length : Int) = 0 := by omega
  have hnz : ((l0.length : Int) == 0) = false := beq_eq_false_iff_ne.mpr hnz0
  have hnz1 : ¬ (l0 = []) := fun h => by have := congrArg List.length h; rw [List.length_nil] at this; omega
  obtain ⟨ad, rfl, hx0, hy0⟩ := at_T32 hr0 0 (by omega) (by omega)
  clear hx0 hy0
  have HR0 := Aside0.mk hr0
  have HC0 := Aside0.mk hc0
  have HX := Aside0.mk hpts
  clear hr0 hc0 hpts
  go_enter Try.func19, Try.ntmps19
  go_wp2_with (go_at_call 45; refine (spec_l31Points.calls 20 _ _ l0 true _ HR0.out HC0.out HX.out).mono ?_; rintro e w1 ⟨rfl, hb⟩)
  have HB := Aside0.mk hb
  clear hb
  go_loopg [4] (l0.length + 1) (fun kq v4 w' => ∃ (i : Nat), v4 = .int .i64 (i : Int) ∧ Aside0 (i + kq = l0.length + 1 ∧ i ≤ l0.length) ∧ Aside0 (∀ i', i' < i → ∀ k', k' < l0.length → i' < k' → badAt l0 i' k' = false) ∧ Aside0 (Below w.heap.size w w'))
  case atStart => exact ⟨0, rfl, ⟨by omega, by omega⟩, ⟨fun i' h => absurd h (Nat.not_lt_zero _)⟩, ⟨by exact HB.out⟩⟩
  case round =>
    obtain ⟨i, rfl, HI, HN, HB⟩ := hrel
    have hi1 := HI.out
    obtain ⟨ko, rfl⟩ : ∃ m, gk = m + 1 := ⟨gk - 1, by omega⟩
    by_cases hi : i < l0.length
    · have hd : decide ((i : Int) < (l0.length : Int)) = true := decide_eq_true (by omega)
      go_wp2
      go_loopg [5] (l0.length) (fun kq v5 w' => ∃ (j : Nat), v5 = .int .i64 (j : Int) ∧ Aside0 (j + kq = l0.length + i + 1 ∧ i < j ∧ j ≤ l0.length) ∧ Aside0 (∀ k', k' < j → i < k' → badAt l0 i k' = false) ∧ Aside0 (Below w.heap.size w w'))
      case atStart => exact ⟨i + 1, by simp, ⟨by omega, by omega, by omega⟩, ⟨fun i' h => by omega⟩, ⟨by exact (by repeat (first | exact HB.out | apply below_drew1))⟩⟩
      case round =>
        obtain ⟨j, rfl, HJ, HM, HB⟩ := hrel
        have hj1 := HJ.out
        obtain ⟨k1, rfl⟩ : ∃ m, gk = m + 1 := ⟨gk - 1, by omega⟩
        by_cases hj : j < l0.length
        · have hd2 : decide ((j : Int) < (l0.length : Int)) = true := decide_eq_true (by omega)
          obtain ⟨im, him⟩ : ∃ m, (i + 1) % l0.length = m := ⟨_, rfl⟩
          obtain ⟨jm, hjm⟩ : ∃ m, (j + 1) % l0.length = m := ⟨_, rfl⟩
          have him1 : im < l0.length := by rw [← him]; exact Nat.mod_lt _ (by omega)
          have hjm1 : jm < l0.length := by rw [← hjm]; exact Nat.mod_lt _ (by omega)
          have qi : ((i : Int) < (l0.length : Int)) = True := eq_true (Int.ofNat_lt.2 hi)
          have qj : ((j : Int) < (l0.length : Int)) = True := eq_true (Int.ofNat_lt.2 hj)
          have qi1 : ((im : Int) < (l0.length : Int)) = True := eq_true (Int.ofNat_lt.2 him1)
          have qj1 : ((jm : Int) < (l0.length : Int)) = True := eq_true (Int.ofNat_lt.2 hjm1)
          obtain ⟨rx, ry⟩ := rd_below HR0.out HB.out hi
          have HTI : Aside0 (((i : Int) + 1) % (l0.length : Int) = (im : Int)) := ⟨by rw [← him]; rfl⟩
          have HTJ : Aside0 (((j : Int) + 1) % (l0.length : Int) = (jm : Int)) := ⟨by rw [← hjm]; rfl⟩
          go_wp2_with (first | ((with_reducible refine gate_dst (N := 36) rfl ?_); rw [HTI.out]) | ((with_reducible refine gate_dst (N := 47) rfl ?_); rw [HTJ.out]) | ((with_reducible refine gate_dst (N := 85) rfl ?_); rw [HTJ.out]) | ((with_reducible refine gate_dst (N := 6) rfl ?_); refine box_event ?hg (N := 6) ?hd (cs := #[.int .i64 0, .int .i64 0]) (t := 32) ?hr ?_; (case hd => rfl); (case hg => rfl); (case hr => exact qq16); intro ba hg wba hbox hb; have n1 := Aside0.mk (below_step HB.out hb); have n2 := Aside0.mk (qq75 : w.heap.size ≤ ba); have hzba0 : wba.cell? ⟨ba, 0, none⟩ = some (.int .i64 0) := (blk_cell hbox 0).trans rfl; have hzba1 : wba.cell? ⟨ba, 1, none⟩ = some (.int .i64 0) := (blk_cell hbox 1).trans rfl; have hfba0 := blk_frozen hbox 0; have hfba1 := blk_frozen hbox 1; obtain ⟨z1, z2, z3⟩ := box_stored (wS := ((wba.setCell ⟨ba, 0, none⟩ (.int .i64 (at_ l0 i).f0)).setCell ⟨ba, 1, none⟩ (.int .i64 (at_ l0 i).f1))) hbox rfl; have n3 := Aside0.mk (z3 w n1.out n2.out); have n4 := Aside0.mk z1; clear HB z1 z2 z3; have HB := n3; have Gba := n2; have Bba := n4; clear n1 n2 n3 n4 hbox hb hg; clear rx ry; obtain ⟨rx, ry⟩ := rd_below HR0.out HB.out him1) | ((with_reducible refine gate_dst (N := 7) rfl ?_); refine box_event ?hg (N := 7) ?hd (cs := #[.int .i64 0, .int .i64 0]) (t := 32) ?hr ?_; (case hd => rfl); (case hg => rfl); (case hr => exact qq16); intro bb hg wbb hbox hb; have n1 := Aside0.mk (below_step HB.out hb); have n2 := Aside0.mk (qq75 : w.heap.size ≤ bb); have k0 := Aside0.mk (blk_below Bba.out hb); have m0 := Aside0.mk ((qq72 Bba.out) : ba ≠ bb); have hzbb0 : wbb.cell? ⟨bb, 0, none⟩ = some (.int .i64 0) := (blk_cell hbox 0).trans rfl; have hzbb1 : wbb.cell? ⟨bb, 1, none⟩ = some (.int .i64 0) := (blk_cell hbox 1).trans rfl; have hfbb0 := blk_frozen hbox 0; have hfbb1 := blk_frozen hbox 1; obtain ⟨z1, z2, z3⟩ := box_stored (wS := ((wbb.setCell ⟨bb, 0, none⟩ (.int .i64 (at_ l0 im).f0)).setCell ⟨bb, 1, none⟩ (.int .i64 (at_ l0 im).f1))) hbox rfl; have n3 := Aside0.mk (z3 w n1.out n2.out); have n4 := Aside0.mk z1; have q0 := Aside0.mk (z2 ba _ m0.out k0.out); clear HB z1 z2 z3 Bba k0; have HB := n3; have Gbb := n2; have Bbb := n4; clear n1 n2 n3 n4 hbox hb hg; have Bba := q0; have Nbabb := m0; clear q0 m0; clear hzba0 hzba1 hfba0 hfba1; clear rx ry; obtain ⟨rx, ry⟩ := rd_below HR0.out HB.out hj) | ((with_reducible refine gate_dst (N := 8) rfl ?_); refine box_event ?hg (N := 8) ?hd (cs := #[.int .i64 0, .int .i64 0]) (t := 32) ?hr ?_; (case hd => rfl); (case hg => rfl); (case hr => exact qq16); intro bc hg wbc hbox hb; have n1 := Aside0.mk (below_step HB.out hb); have n2 := Aside0.mk (qq75 : w.heap.size ≤ bc); have k0 := Aside0.mk (blk_below Bba.out hb); have m0 := Aside0.mk ((qq72 Bba.out) : ba ≠ bc); have k1 := Aside0.mk (blk_below Bbb.out hb); have m1 := Aside0.mk ((qq72 Bbb.out) : bb ≠ bc); have hzbc0 : wbc.cell? ⟨bc, 0, none⟩ = some (.int .i64 0) := (blk_cell hbox 0).trans rfl; have hzbc1 : wbc.cell? ⟨bc, 1, none⟩ = some (.int .i64 0) := (blk_cell hbox 1).trans rfl; have hfbc0 := blk_frozen hbox 0; have hfbc1 := blk_frozen hbox 1; obtain ⟨z1, z2, z3⟩ := box_stored (wS := ((wbc.setCell ⟨bc, 0, none⟩ (.int .i64 (at_ l0 j).f0)).setCell ⟨bc, 1, none⟩ (.int .i64 (at_ l0 j).f1))) hbox rfl; have n3 := Aside0.mk (z3 w n1.out n2.out); have n4 := Aside0.mk z1; have q0 := Aside0.mk (z2 ba _ m0.out k0.out); have q1 := Aside0.mk (z2 bb _ m1.out k1.out); clear HB z1 z2 z3 Bba k0 Bbb k1; have HB := n3; have Gbc := n2; have Bbc := n4; clear n1 n2 n3 n4 hbox hb hg; have Bba := q0; have Nbabc := m0; clear q0 m0; have Bbb := q1; have Nbbbc := m1; clear q1 m1; clear hzbb0 hzbb1 hfbb0 hfbb1; clear rx ry; obtain ⟨rx, ry⟩ := rd_below HR0.out HB.out hjm1) | ((with_reducible refine gate_dst (N := 9) rfl ?_); refine box_event ?hg (N := 9) ?hd (cs := #[.int .i64 0, .int .i64 0]) (t := 32) ?hr ?_; (case hd => rfl); (case hg => rfl); (case hr => exact qq16); intro bd hg wbd hbox hb; have n1 := Aside0.mk (below_step HB.out hb); have n2 := Aside0.mk (qq75 : w.heap.size ≤ bd); have k0 := Aside0.mk (blk_below Bba.out hb); have m0 := Aside0.mk ((qq72 Bba.out) : ba ≠ bd); have k1 := Aside0.mk (blk_below Bbb.out hb); have m1 := Aside0.mk ((qq72 Bbb.out) : bb ≠ bd); have k2 := Aside0.mk (blk_below Bbc.out hb); have m2 := Aside0.mk ((qq72 Bbc.out) : bc ≠ bd); have hzbd0 : wbd.cell? ⟨bd, 0, none⟩ = some (.int .i64 0) := (blk_cell hbox 0).trans rfl; have hzbd1 : wbd.cell? ⟨bd, 1, none⟩ = some (.int .i64 0) := (blk_cell hbox 1).trans rfl; have hfbd0 := blk_frozen hbox 0; have hfbd1 := blk_frozen hbox 1; obtain ⟨z1, z2, z3⟩ := box_stored (wS := ((wbd.setCell ⟨bd, 0, none⟩ (.int .i64 (at_ l0 jm).f0)).setCell ⟨bd, 1, none⟩ (.int .i64 (at_ l0 jm).f1))) hbox rfl; have n3 := Aside0.mk (z3 w n1.out n2.out); have n4 := Aside0.mk z1; have q0 := Aside0.mk (z2 ba _ m0.out k0.out); have q1 := Aside0.mk (z2 bb _ m1.out k1.out); have q2 := Aside0.mk (z2 bc _ m2.out k2.out); clear HB z1 z2 z3 Bba k0 Bbb k1 Bbc k2; have HB := n3; have Gbd := n2; have Bbd := n4; clear n1 n2 n3 n4 hbox hb hg; have Bba := q0; have Nbabd := m0; clear q0 m0; have Bbb := q1; have Nbbbd := m1; clear q1 m1; have Bbc := q2; have Nbcbd := m2; clear q2 m2; clear hzbc0 hzbc1 hfbc0 hfbc1; clear rx ry; have cba0 : ((wbd.setCell ⟨bd, 0, none⟩ (.int .i64 (at_ l0 jm).f0)).setCell ⟨bd, 1, none⟩ (.int .i64 (at_ l0 jm).f1)).cell? ⟨ba, 0, none⟩ = some (.int .i64 (at_ l0 i).f0) := (blk_cell Bba.out 0).trans rfl; have cba1 : ((wbd.setCell ⟨bd, 0, none⟩ (.int .i64 (at_ l0 jm).f0)).setCell ⟨bd, 1, none⟩ (.int .i64 (at_ l0 jm).f1)).cell? ⟨ba, 1, none⟩ = some (.int .i64 (at_ l0 i).f1) := (blk_cell Bba.out 1).trans rfl; have cbb0 : ((wbd.setCell ⟨bd, 0, none⟩ (.int .i64 (at_ l0 jm).f0)).setCell ⟨bd, 1, none⟩ (.int .i64 (at_ l0 jm).f1)).cell? ⟨bb, 0, none⟩ = some (.int .i64 (at_ l0 im).f0) := (blk_cell Bbb.out 0).trans rfl; have cbb1 : ((wbd.setCell ⟨bd, 0, none⟩ (.int .i64 (at_ l0 jm).f0)).setCell ⟨bd, 1, none⟩ (.int .i64 (at_ l0 jm).f1)).cell? ⟨bb, 1, none⟩ = some (.int .i64 (at_ l0 im).f1) := (blk_cell Bbb.out 1).trans rfl; have cbc0 : ((wbd.setCell ⟨bd, 0, none⟩ (.int .i64 (at_ l0 jm).f0)).setCell ⟨bd, 1, none⟩ (.int .i64 (at_ l0 jm).f1)).cell? ⟨bc, 0, none⟩ = some (.int .i64 (at_ l0 j).f0) := (blk_cell Bbc.out 0).trans rfl; have cbc1 : ((wbd.setCell ⟨bd, 0, none⟩ (.int .i64 (at_ l0 jm).f0)).setCell ⟨bd, 1, none⟩ (.int .i64 (at_ l0 jm).f1)).cell? ⟨bc, 1, none⟩ = some (.int .i64 (at_ l0 j).f1) := (blk_cell Bbc.out 1).trans rfl; have cbd0 : ((wbd.setCell ⟨bd, 0, none⟩ (.int .i64 (at_ l0 jm).f0)).setCell ⟨bd, 1, none⟩ (.int .i64 (at_ l0 jm).f1)).cell? ⟨bd, 0, none⟩ = some (.int .i64 (at_ l0 jm).f0) := (blk_cell Bbd.out 0).trans rfl; have cbd1 : ((wbd.setCell ⟨bd, 0, none⟩ (.int .i64 (at_ l0 jm).f0)).setCell ⟨bd, 1, none⟩ (.int .i64 (at_ l0 jm).f1)).cell? ⟨bd, 1, none⟩ = some (.int .i64 (at_ l0 jm).f1) := (blk_cell Bbd.out 1).trans rfl) | ((with_reducible refine gate_dst (N := 58) rfl ?_); refine Halted.out ?_))
          by_cases hc1 : j = i + 1
          · skip
            have hk1 : ((j : Int) == (i : Int) + 1) = true := by rw [hc1]; exact beq_self_eq_true _
            obtain ⟨e1, he1⟩ : ∃ b, sameP (at_ l0 j) (at_ l0 i) = b := ⟨_, rfl⟩
            obtain ⟨e2, he2⟩ : ∃ b, sameP (at_ l0 jm) (at_ l0 j) = b := ⟨_, rfl⟩
            obtain ⟨b1, hb1⟩ : ∃ b, onPt (at_ l0 i) (at_ l0 im) (at_ l0 jm) = b := ⟨_, rfl⟩
            obtain ⟨b2, hb2⟩ : ∃ b, onPt (at_ l0 j) (at_ l0 jm) (at_ l0 i) = b := ⟨_, rfl⟩
            have F1 := Aside0.mk ((on_f (pv_at hcv hi) (pv_at hcv him1) (pv_at hcv hjm1)).trans (congrArg some hb1))
            have F2 := Aside0.mk ((on_f (pv_at hcv hj) (pv_at hcv hjm1) (pv_at hcv hi)).trans (congrArg some hb2))
            have RS1 := same_run he1
            have RS2 := same_run he2
            have HBAD : badAt l0 i j = (e1 || e2 || b1 || b2) := by unfold badAt nxt; rw [if_pos hc1, hjm, him, he1, he2, hb1, hb2]
            have HC1 := Aside0.mk hc1
            have HCV := Aside0.mk hcv
            clear hcv him hjm hb1 hb2 hc1 he1 he2
            cases e1
            · cases e2
              · cases b1
                · cases b2
                  · refine Halted.intro ?_; go_wp2_with (first | ((with_reducible refine gate_dst (N := 85) rfl ?_); rw [HTJ.out]) | (go_at_call 50; with_reducible refine (spec_l2On.calls (at_ l0 i).f0 (at_ l0 i).f1 (at_ l0 im).f0 (at_ l0 im).f1 (at_ l0 jm).f0 (at_ l0 jm).f1 _ _ F1.out).mono ?_; rintro e wz ⟨rfl, hb⟩; have n1 := Aside0.mk (below_step HB.out hb); have kba := Aside0.mk (blk_below Bba.out hb); have kbb := Aside0.mk (blk_below Bbb.out hb); have kbc := Aside0.mk (blk_below Bbc.out hb); have kbd := Aside0.mk (blk_below Bbd.out hb); clear HB Bba Bbb Bbc Bbd cba0 cba1 cbb0 cbb1 cbc0 cbc1 cbd0 cbd1; have HB := n1; clear n1 hb; have Bba := kba; clear kba; have cba0 : wz.cell? ⟨ba, 0, none⟩ = some (.int .i64 (at_ l0 i).f0) := (blk_cell Bba.out 0).trans rfl; have cba1 : wz.cell? ⟨ba, 1, none⟩ = some (.int .i64 (at_ l0 i).f1) := (blk_cell Bba.out 1).trans rfl; have Bbb := kbb; clear kbb; have cbb0 : wz.cell? ⟨bb, 0, none⟩ = some (.int .i64 (at_ l0 im).f0) := (blk_cell Bbb.out 0).trans rfl; have cbb1 : wz.cell? ⟨bb, 1, none⟩ = some (.int .i64 (at_ l0 im).f1) := (blk_cell Bbb.out 1).trans rfl; have Bbc := kbc; clear kbc; have cbc0 : wz.cell? ⟨bc, 0, none⟩ = some (.int .i64 (at_ l0 j).f0) := (blk_cell Bbc.out 0).trans rfl; have cbc1 : wz.cell? ⟨bc, 1, none⟩ = some (.int .i64 (at_ l0 j).f1) := (blk_cell Bbc.out 1).trans rfl; have Bbd := kbd; clear kbd; have cbd0 : wz.cell? ⟨bd, 0, none⟩ = some (.int .i64 (at_ l0 jm).f0) := (blk_cell Bbd.out 0).trans rfl; have cbd1 : wz.cell? ⟨bd, 1, none⟩ = some (.int .i64 (at_ l0 jm).f1) := (blk_cell Bbd.out 1).trans rfl) | (go_at_call 50; with_reducible refine (spec_l2On.calls (at_ l0 j).f0 (at_ l0 j).f1 (at_ l0 jm).f0 (at_ l0 jm).f1 (at_ l0 i).f0 (at_ l0 i).f1 _ _ F2.out).mono ?_; rintro e wy ⟨rfl, hb⟩; have n1 := Aside0.mk (below_step HB.out hb); have kba := Aside0.mk (blk_below Bba.out hb); have kbb := Aside0.mk (blk_below Bbb.out hb); have kbc := Aside0.mk (blk_below Bbc.out hb); have kbd := Aside0.mk (blk_below Bbd.out hb); clear HB Bba Bbb Bbc Bbd cba0 cba1 cbb0 cbb1 cbc0 cbc1 cbd0 cbd1; have HB := n1; clear n1 hb; have Bba := kba; clear kba; have cba0 : wy.cell? ⟨ba, 0, none⟩ = some (.int .i64 (at_ l0 i).f0) := (blk_cell Bba.out 0).trans rfl; have cba1 : wy.cell? ⟨ba, 1, none⟩ = some (.int .i64 (at_ l0 i).f1) := (blk_cell Bba.out 1).trans rfl; have Bbb := kbb; clear kbb; have cbb0 : wy.cell? ⟨bb, 0, none⟩ = some (.int .i64 (at_ l0 im).f0) := (blk_cell Bbb.out 0).trans rfl; have cbb1 : wy.cell? ⟨bb, 1, none⟩ = some (.int .i64 (at_ l0 im).f1) := (blk_cell Bbb.out 1).trans rfl; have Bbc := kbc; clear kbc; have cbc0 : wy.cell? ⟨bc, 0, none⟩ = some (.int .i64 (at_ l0 j).f0) := (blk_cell Bbc.out 0).trans rfl; have cbc1 : wy.cell? ⟨bc, 1, none⟩ = some (.int .i64 (at_ l0 j).f1) := (blk_cell Bbc.out 1).trans rfl; have Bbd := kbd; clear kbd; have cbd0 : wy.cell? ⟨bd, 0, none⟩ = some (.int .i64 (at_ l0 jm).f0) := (blk_cell Bbd.out 0).trans rfl; have cbd1 : wy.cell? ⟨bd, 1, none⟩ = some (.int .i64 (at_ l0 jm).f1) := (blk_cell Bbd.out 1).trans rfl))
                    go_roundg k1
                    case measure => omega
                    case rel => exact ⟨j + 1, by simp, ⟨by omega, by omega, by omega⟩, ⟨fun k' h1 h2 => by rcases Nat.lt_or_eq_of_le (Nat.le_of_lt_succ h1) with h | rfl; exact HM.out k' h h2; exact HBAD⟩, ⟨by exact HB.out⟩⟩
                  · refine Halted.intro ?_; go_wp2_with (first | ((with_reducible refine gate_dst (N := 85) rfl ?_); rw [HTJ.out]) | (go_at_call 50; with_reducible refine (spec_l2On.calls (at_ l0 i).f0 (at_ l0 i).f1 (at_ l0 im).f0 (at_ l0 im).f1 (at_ l0 jm).f0 (at_ l0 jm).f1 _ _ F1.out).mono ?_; rintro e wz ⟨rfl, hb⟩; have n1 := Aside0.mk (below_step HB.out hb); have kba := Aside0.mk (blk_below Bba.out hb); have kbb := Aside0.mk (blk_below Bbb.out hb); have kbc := Aside0.mk (blk_below Bbc.out hb); have kbd := Aside0.mk (blk_below Bbd.out hb); clear HB Bba Bbb Bbc Bbd cba0 cba1 cbb0 cbb1 cbc0 cbc1 cbd0 cbd1; have HB := n1; clear n1 hb; have Bba := kba; clear kba; have cba0 : wz.cell? ⟨ba, 0, none⟩ = some (.int .i64 (at_ l0 i).f0) := (blk_cell Bba.out 0).trans rfl; have cba1 : wz.cell? ⟨ba, 1, none⟩ = some (.int .i64 (at_ l0 i).f1) := (blk_cell Bba.out 1).trans rfl; have Bbb := kbb; clear kbb; have cbb0 : wz.cell? ⟨bb, 0, none⟩ = some (.int .i64 (at_ l0 im).f0) := (blk_cell Bbb.out 0).trans rfl; have cbb1 : wz.cell? ⟨bb, 1, none⟩ = some (.int .i64 (at_ l0 im).f1) := (blk_cell Bbb.out 1).trans rfl; have Bbc := kbc; clear kbc; have cbc0 : wz.cell? ⟨bc, 0, none⟩ = some (.int .i64 (at_ l0 j).f0) := (blk_cell Bbc.out 0).trans rfl; have cbc1 : wz.cell? ⟨bc, 1, none⟩ = some (.int .i64 (at_ l0 j).f1) := (blk_cell Bbc.out 1).trans rfl; have Bbd := kbd; clear kbd; have cbd0 : wz.cell? ⟨bd, 0, none⟩ = some (.int .i64 (at_ l0 jm).f0) := (blk_cell Bbd.out 0).trans rfl; have cbd1 : wz.cell? ⟨bd, 1, none⟩ = some (.int .i64 (at_ l0 jm).f1) := (blk_cell Bbd.out 1).trans rfl) | (go_at_call 50; with_reducible refine (spec_l2On.calls (at_ l0 j).f0 (at_ l0 j).f1 (at_ l0 jm).f0 (at_ l0 jm).f1 (at_ l0 i).f0 (at_ l0 i).f1 _ _ F2.out).mono ?_; rintro e wy ⟨rfl, hb⟩; have n1 := Aside0.mk (below_step HB.out hb); have kba := Aside0.mk (blk_below Bba.out hb); have kbb := Aside0.mk (blk_below Bbb.out hb); have kbc := Aside0.mk (blk_below Bbc.out hb); have kbd := Aside0.mk (blk_below Bbd.out hb); clear HB Bba Bbb Bbc Bbd cba0 cba1 cbb0 cbb1 cbc0 cbc1 cbd0 cbd1; have HB := n1; clear n1 hb; have Bba := kba; clear kba; have cba0 : wy.cell? ⟨ba, 0, none⟩ = some (.int .i64 (at_ l0 i).f0) := (blk_cell Bba.out 0).trans rfl; have cba1 : wy.cell? ⟨ba, 1, none⟩ = some (.int .i64 (at_ l0 i).f1) := (blk_cell Bba.out 1).trans rfl; have Bbb := kbb; clear kbb; have cbb0 : wy.cell? ⟨bb, 0, none⟩ = some (.int .i64 (at_ l0 im).f0) := (blk_cell Bbb.out 0).trans rfl; have cbb1 : wy.cell? ⟨bb, 1, none⟩ = some (.int .i64 (at_ l0 im).f1) := (blk_cell Bbb.out 1).trans rfl; have Bbc := kbc; clear kbc; have cbc0 : wy.cell? ⟨bc, 0, none⟩ = some (.int .i64 (at_ l0 j).f0) := (blk_cell Bbc.out 0).trans rfl; have cbc1 : wy.cell? ⟨bc, 1, none⟩ = some (.int .i64 (at_ l0 j).f1) := (blk_cell Bbc.out 1).trans rfl; have Bbd := kbd; clear kbd; have cbd0 : wy.cell? ⟨bd, 0, none⟩ = some (.int .i64 (at_ l0 jm).f0) := (blk_cell Bbd.out 0).trans rfl; have cbd1 : wy.cell? ⟨bd, 1, none⟩ = some (.int .i64 (at_ l0 jm).f1) := (blk_cell Bbd.out 1).trans rfl))
                    go_ret
                    exact ⟨qq57, by exact HB.out⟩
                · refine Halted.intro ?_; go_wp2_with (first | ((with_reducible refine gate_dst (N := 85) rfl ?_); rw [HTJ.out]) | (go_at_call 50; with_reducible refine (spec_l2On.calls (at_ l0 i).f0 (at_ l0 i).f1 (at_ l0 im).f0 (at_ l0 im).f1 (at_ l0 jm).f0 (at_ l0 jm).f1 _ _ F1.out).mono ?_; rintro e wz ⟨rfl, hb⟩; have n1 := Aside0.mk (below_step HB.out hb); have kba := Aside0.mk (blk_below Bba.out hb); have kbb := Aside0.mk (blk_below Bbb.out hb); have kbc := Aside0.mk (blk_below Bbc.out hb); have kbd := Aside0.mk (blk_below Bbd.out hb); clear HB Bba Bbb Bbc Bbd cba0 cba1 cbb0 cbb1 cbc0 cbc1 cbd0 cbd1; have HB := n1; clear n1 hb; have Bba := kba; clear kba; have cba0 : wz.cell? ⟨ba, 0, none⟩ = some (.int .i64 (at_ l0 i).f0) := (blk_cell Bba.out 0).trans rfl; have cba1 : wz.cell? ⟨ba, 1, none⟩ = some (.int .i64 (at_ l0 i).f1) := (blk_cell Bba.out 1).trans rfl; have Bbb := kbb; clear kbb; have cbb0 : wz.cell? ⟨bb, 0, none⟩ = some (.int .i64 (at_ l0 im).f0) := (blk_cell Bbb.out 0).trans rfl; have cbb1 : wz.cell? ⟨bb, 1, none⟩ = some (.int .i64 (at_ l0 im).f1) := (blk_cell Bbb.out 1).trans rfl; have Bbc := kbc; clear kbc; have cbc0 : wz.cell? ⟨bc, 0, none⟩ = some (.int .i64 (at_ l0 j).f0) := (blk_cell Bbc.out 0).trans rfl; have cbc1 : wz.cell? ⟨bc, 1, none⟩ = some (.int .i64 (at_ l0 j).f1) := (blk_cell Bbc.out 1).trans rfl; have Bbd := kbd; clear kbd; have cbd0 : wz.cell? ⟨bd, 0, none⟩ = some (.int .i64 (at_ l0 jm).f0) := (blk_cell Bbd.out 0).trans rfl; have cbd1 : wz.cell? ⟨bd, 1, none⟩ = some (.int .i64 (at_ l0 jm).f1) := (blk_cell Bbd.out 1).trans rfl))
                  go_ret
                  exact ⟨qq57, by exact HB.out⟩
              · refine Halted.intro ?_; go_wp2_with (first | ((with_reducible refine gate_dst (N := 85) rfl ?_); rw [HTJ.out]))
                go_ret
                exact ⟨qq57, by exact HB.out⟩
            · refine Halted.intro ?_; go_wp2_with (first | ((with_reducible refine gate_dst (N := 85) rfl ?_); rw [HTJ.out]))
              go_ret
              exact ⟨qq57, by exact HB.out⟩
          by_cases hc2 : jm = i
          · skip
            have hk0 : ¬ (j : Int) = (i : Int) + 1 := fun h => hc1 (Int.ofNat.inj h)
            have hk1 : ((j : Int) == (i : Int) + 1) = false := beq_eq_false_iff_ne.mpr hk0
            have hk2 : ((jm : Int) == (i : Int)) = true := by rw [hc2]; exact beq_self_eq_true _
            obtain ⟨b1, hb1⟩ : ∃ b, onPt (at_ l0 j) (at_ l0 jm) (at_ l0 im) = b := ⟨_, rfl⟩
            obtain ⟨b2, hb2⟩ : ∃ b, onPt (at_ l0 i) (at_ l0 im) (at_ l0 j) = b := ⟨_, rfl⟩
            have F1 := Aside0.mk ((on_f (pv_at hcv hj) (pv_at hcv hjm1) (pv_at hcv him1)).trans (congrArg some hb1))
            have F2 := Aside0.mk ((on_f (pv_at hcv hi) (pv_at hcv him1) (pv_at hcv hj)).trans (congrArg some hb2))
            have HBAD : badAt l0 i j = (b1 || b2) := by unfold badAt nxt; rw [if_neg hc1, hjm, if_pos hc2, him, hb1, hb2]
            have HCV := Aside0.mk hcv
            clear hcv him hjm hb1 hb2 hc2
            cases b1
            · cases b2
              · refine Halted.intro ?_; go_wp2_with (first | ((with_reducible refine gate_dst (N := 85) rfl ?_); rw [HTJ.out]) | (go_at_call 50; with_reducible refine (spec_l2On.calls (at_ l0 j).f0 (at_ l0 j).f1 (at_ l0 jm).f0 (at_ l0 jm).f1 (at_ l0 im).f0 (at_ l0 im).f1 _ _ F1.out).mono ?_; rintro e wz ⟨rfl, hb⟩; have n1 := Aside0.mk (below_step HB.out hb); have kba := Aside0.mk (blk_below Bba.out hb); have kbb := Aside0.mk (blk_below Bbb.out hb); have kbc := Aside0.mk (blk_below Bbc.out hb); have kbd := Aside0.mk (blk_below Bbd.out hb); clear HB Bba Bbb Bbc Bbd cba0 cba1 cbb0 cbb1 cbc0 cbc1 cbd0 cbd1; have HB := n1; clear n1 hb; have Bba := kba; clear kba; have cba0 : wz.cell? ⟨ba, 0, none⟩ = some (.int .i64 (at_ l0 i).f0) := (blk_cell Bba.out 0).trans rfl; have cba1 : wz.cell? ⟨ba, 1, none⟩ = some (.int .i64 (at_ l0 i).f1) := (blk_cell Bba.out 1).trans rfl; have Bbb := kbb; clear kbb; have cbb0 : wz.cell? ⟨bb, 0, none⟩ = some (.int .i64 (at_ l0 im).f0) := (blk_cell Bbb.out 0).trans rfl; have cbb1 : wz.cell? ⟨bb, 1, none⟩ = some (.int .i64 (at_ l0 im).f1) := (blk_cell Bbb.out 1).trans rfl; have Bbc := kbc; clear kbc; have cbc0 : wz.cell? ⟨bc, 0, none⟩ = some (.int .i64 (at_ l0 j).f0) := (blk_cell Bbc.out 0).trans rfl; have cbc1 : wz.cell? ⟨bc, 1, none⟩ = some (.int .i64 (at_ l0 j).f1) := (blk_cell Bbc.out 1).trans rfl; have Bbd := kbd; clear kbd; have cbd0 : wz.cell? ⟨bd, 0, none⟩ = some (.int .i64 (at_ l0 jm).f0) := (blk_cell Bbd.out 0).trans rfl; have cbd1 : wz.cell? ⟨bd, 1, none⟩ = some (.int .i64 (at_ l0 jm).f1) := (blk_cell Bbd.out 1).trans rfl) | (go_at_call 50; with_reducible refine (spec_l2On.calls (at_ l0 i).f0 (at_ l0 i).f1 (at_ l0 im).f0 (at_ l0 im).f1 (at_ l0 j).f0 (at_ l0 j).f1 _ _ F2.out).mono ?_; rintro e wy ⟨rfl, hb⟩; have n1 := Aside0.mk (below_step HB.out hb); have kba := Aside0.mk (blk_below Bba.out hb); have kbb := Aside0.mk (blk_below Bbb.out hb); have kbc := Aside0.mk (blk_below Bbc.out hb); have kbd := Aside0.mk (blk_below Bbd.out hb); clear HB Bba Bbb Bbc Bbd cba0 cba1 cbb0 cbb1 cbc0 cbc1 cbd0 cbd1; have HB := n1; clear n1 hb; have Bba := kba; clear kba; have cba0 : wy.cell? ⟨ba, 0, none⟩ = some (.int .i64 (at_ l0 i).f0) := (blk_cell Bba.out 0).trans rfl; have cba1 : wy.cell? ⟨ba, 1, none⟩ = some (.int .i64 (at_ l0 i).f1) := (blk_cell Bba.out 1).trans rfl; have Bbb := kbb; clear kbb; have cbb0 : wy.cell? ⟨bb, 0, none⟩ = some (.int .i64 (at_ l0 im).f0) := (blk_cell Bbb.out 0).trans rfl; have cbb1 : wy.cell? ⟨bb, 1, none⟩ = some (.int .i64 (at_ l0 im).f1) := (blk_cell Bbb.out 1).trans rfl; have Bbc := kbc; clear kbc; have cbc0 : wy.cell? ⟨bc, 0, none⟩ = some (.int .i64 (at_ l0 j).f0) := (blk_cell Bbc.out 0).trans rfl; have cbc1 : wy.cell? ⟨bc, 1, none⟩ = some (.int .i64 (at_ l0 j).f1) := (blk_cell Bbc.out 1).trans rfl; have Bbd := kbd; clear kbd; have cbd0 : wy.cell? ⟨bd, 0, none⟩ = some (.int .i64 (at_ l0 jm).f0) := (blk_cell Bbd.out 0).trans rfl; have cbd1 : wy.cell? ⟨bd, 1, none⟩ = some (.int .i64 (at_ l0 jm).f1) := (blk_cell Bbd.out 1).trans rfl))
                go_roundg k1
                case measure => omega
                case rel => exact ⟨j + 1, by simp, ⟨by omega, by omega, by omega⟩, ⟨fun k' h1 h2 => by rcases Nat.lt_or_eq_of_le (Nat.le_of_lt_succ h1) with h | rfl; exact HM.out k' h h2; exact HBAD⟩, ⟨by exact HB.out⟩⟩
              · refine Halted.intro ?_; go_wp2_with (first | ((with_reducible refine gate_dst (N := 85) rfl ?_); rw [HTJ.out]) | (go_at_call 50; with_reducible refine (spec_l2On.calls (at_ l0 j).f0 (at_ l0 j).f1 (at_ l0 jm).f0 (at_ l0 jm).f1 (at_ l0 im).f0 (at_ l0 im).f1 _ _ F1.out).mono ?_; rintro e wz ⟨rfl, hb⟩; have n1 := Aside0.mk (below_step HB.out hb); have kba := Aside0.mk (blk_below Bba.out hb); have kbb := Aside0.mk (blk_below Bbb.out hb); have kbc := Aside0.mk (blk_below Bbc.out hb); have kbd := Aside0.mk (blk_below Bbd.out hb); clear HB Bba Bbb Bbc Bbd cba0 cba1 cbb0 cbb1 cbc0 cbc1 cbd0 cbd1; have HB := n1; clear n1 hb; have Bba := kba; clear kba; have cba0 : wz.cell? ⟨ba, 0, none⟩ = some (.int .i64 (at_ l0 i).f0) := (blk_cell Bba.out 0).trans rfl; have cba1 : wz.cell? ⟨ba, 1, none⟩ = some (.int .i64 (at_ l0 i).f1) := (blk_cell Bba.out 1).trans rfl; have Bbb := kbb; clear kbb; have cbb0 : wz.cell? ⟨bb, 0, none⟩ = some (.int .i64 (at_ l0 im).f0) := (blk_cell Bbb.out 0).trans rfl; have cbb1 : wz.cell? ⟨bb, 1, none⟩ = some (.int .i64 (at_ l0 im).f1) := (blk_cell Bbb.out 1).trans rfl; have Bbc := kbc; clear kbc; have cbc0 : wz.cell? ⟨bc, 0, none⟩ = some (.int .i64 (at_ l0 j).f0) := (blk_cell Bbc.out 0).trans rfl; have cbc1 : wz.cell? ⟨bc, 1, none⟩ = some (.int .i64 (at_ l0 j).f1) := (blk_cell Bbc.out 1).trans rfl; have Bbd := kbd; clear kbd; have cbd0 : wz.cell? ⟨bd, 0, none⟩ = some (.int .i64 (at_ l0 jm).f0) := (blk_cell Bbd.out 0).trans rfl; have cbd1 : wz.cell? ⟨bd, 1, none⟩ = some (.int .i64 (at_ l0 jm).f1) := (blk_cell Bbd.out 1).trans rfl) | (go_at_call 50; with_reducible refine (spec_l2On.calls (at_ l0 i).f0 (at_ l0 i).f1 (at_ l0 im).f0 (at_ l0 im).f1 (at_ l0 j).f0 (at_ l0 j).f1 _ _ F2.out).mono ?_; rintro e wy ⟨rfl, hb⟩; have n1 := Aside0.mk (below_step HB.out hb); have kba := Aside0.mk (blk_below Bba.out hb); have kbb := Aside0.mk (blk_below Bbb.out hb); have kbc := Aside0.mk (blk_below Bbc.out hb); have kbd := Aside0.mk (blk_below Bbd.out hb); clear HB Bba Bbb Bbc Bbd cba0 cba1 cbb0 cbb1 cbc0 cbc1 cbd0 cbd1; have HB := n1; clear n1 hb; have Bba := kba; clear kba; have cba0 : wy.cell? ⟨ba, 0, none⟩ = some (.int .i64 (at_ l0 i).f0) := (blk_cell Bba.out 0).trans rfl; have cba1 : wy.cell? ⟨ba, 1, none⟩ = some (.int .i64 (at_ l0 i).f1) := (blk_cell Bba.out 1).trans rfl; have Bbb := kbb; clear kbb; have cbb0 : wy.cell? ⟨bb, 0, none⟩ = some (.int .i64 (at_ l0 im).f0) := (blk_cell Bbb.out 0).trans rfl; have cbb1 : wy.cell? ⟨bb, 1, none⟩ = some (.int .i64 (at_ l0 im).f1) := (blk_cell Bbb.out 1).trans rfl; have Bbc := kbc; clear kbc; have cbc0 : wy.cell? ⟨bc, 0, none⟩ = some (.int .i64 (at_ l0 j).f0) := (blk_cell Bbc.out 0).trans rfl; have cbc1 : wy.cell? ⟨bc, 1, none⟩ = some (.int .i64 (at_ l0 j).f1) := (blk_cell Bbc.out 1).trans rfl; have Bbd := kbd; clear kbd; have cbd0 : wy.cell? ⟨bd, 0, none⟩ = some (.int .i64 (at_ l0 jm).f0) := (blk_cell Bbd.out 0).trans rfl; have cbd1 : wy.cell? ⟨bd, 1, none⟩ = some (.int .i64 (at_ l0 jm).f1) := (blk_cell Bbd.out 1).trans rfl))
                go_ret
                exact ⟨qq57, by exact HB.out⟩
            · refine Halted.intro ?_; go_wp2_with (first | ((with_reducible refine gate_dst (N := 85) rfl ?_); rw [HTJ.out]) | (go_at_call 50; with_reducible refine (spec_l2On.calls (at_ l0 j).f0 (at_ l0 j).f1 (at_ l0 jm).f0 (at_ l0 jm).f1 (at_ l0 im).f0 (at_ l0 im).f1 _ _ F1.out).mono ?_; rintro e wz ⟨rfl, hb⟩; have n1 := Aside0.mk (below_step HB.out hb); have kba := Aside0.mk (blk_below Bba.out hb); have kbb := Aside0.mk (blk_below Bbb.out hb); have kbc := Aside0.mk (blk_below Bbc.out hb); have kbd := Aside0.mk (blk_below Bbd.out hb); clear HB Bba Bbb Bbc Bbd cba0 cba1 cbb0 cbb1 cbc0 cbc1 cbd0 cbd1; have HB := n1; clear n1 hb; have Bba := kba; clear kba; have cba0 : wz.cell? ⟨ba, 0, none⟩ = some (.int .i64 (at_ l0 i).f0) := (blk_cell Bba.out 0).trans rfl; have cba1 : wz.cell? ⟨ba, 1, none⟩ = some (.int .i64 (at_ l0 i).f1) := (blk_cell Bba.out 1).trans rfl; have Bbb := kbb; clear kbb; have cbb0 : wz.cell? ⟨bb, 0, none⟩ = some (.int .i64 (at_ l0 im).f0) := (blk_cell Bbb.out 0).trans rfl; have cbb1 : wz.cell? ⟨bb, 1, none⟩ = some (.int .i64 (at_ l0 im).f1) := (blk_cell Bbb.out 1).trans rfl; have Bbc := kbc; clear kbc; have cbc0 : wz.cell? ⟨bc, 0, none⟩ = some (.int .i64 (at_ l0 j).f0) := (blk_cell Bbc.out 0).trans rfl; have cbc1 : wz.cell? ⟨bc, 1, none⟩ = some (.int .i64 (at_ l0 j).f1) := (blk_cell Bbc.out 1).trans rfl; have Bbd := kbd; clear kbd; have cbd0 : wz.cell? ⟨bd, 0, none⟩ = some (.int .i64 (at_ l0 jm).f0) := (blk_cell Bbd.out 0).trans rfl; have cbd1 : wz.cell? ⟨bd, 1, none⟩ = some (.int .i64 (at_ l0 jm).f1) := (blk_cell Bbd.out 1).trans rfl))
              go_ret
              exact ⟨qq57, by exact HB.out⟩
          have hk0 : ¬ (j : Int) = (i : Int) + 1 := fun h => hc1 (Int.ofNat.inj h)
          have hk1 : ((j : Int) == (i : Int) + 1) = false := beq_eq_false_iff_ne.mpr hk0
          have hk3 : ¬ (jm : Int) = (i : Int) := fun h => hc2 (Int.ofNat.inj h)
          have hk2 : ((jm : Int) == (i : Int)) = false := beq_eq_false_iff_ne.mpr hk3
          · skip
            obtain ⟨b, hb⟩ : ∃ b, meetPt (at_ l0 i) (at_ l0 im) (at_ l0 j) (at_ l0 jm) = b := ⟨_, rfl⟩
            have F := Aside0.mk ((meet_f (pv_at hcv hi) (pv_at hcv him1) (pv_at hcv hj) (pv_at hcv hjm1)).trans (congrArg some hb))
            have HBAD : badAt l0 i j = b := by unfold badAt nxt; rw [if_neg hc1, hjm, if_neg hc2, him, hb]
            have HCV := Aside0.mk hcv
            clear hcv him hjm hb
            cases b
            · refine Halted.intro ?_; go_wp2_with (first | ((with_reducible refine gate_dst (N := 85) rfl ?_); rw [HTJ.out]) | (go_at_call 51; with_reducible refine (spec_l31Meet.calls 1 (at_ l0 i).f0 (at_ l0 i).f1 (at_ l0 im).f0 (at_ l0 im).f1 (at_ l0 j).f0 (at_ l0 j).f1 (at_ l0 jm).f0 (at_ l0 jm).f1 _ _ F.out).mono ?_; rintro e wz ⟨rfl, hb⟩; have n1 := Aside0.mk (below_step HB.out hb); have kba := Aside0.mk (blk_below Bba.out hb); have kbb := Aside0.mk (blk_below Bbb.out hb); have kbc := Aside0.mk (blk_below Bbc.out hb); have kbd := Aside0.mk (blk_below Bbd.out hb); clear HB Bba Bbb Bbc Bbd cba0 cba1 cbb0 cbb1 cbc0 cbc1 cbd0 cbd1; have HB := n1; clear n1 hb; have Bba := kba; clear kba; have cba0 : wz.cell? ⟨ba, 0, none⟩ = some (.int .i64 (at_ l0 i).f0) := (blk_cell Bba.out 0).trans rfl; have cba1 : wz.cell? ⟨ba, 1, none⟩ = some (.int .i64 (at_ l0 i).f1) := (blk_cell Bba.out 1).trans rfl; have Bbb := kbb; clear kbb; have cbb0 : wz.cell? ⟨bb, 0, none⟩ = some (.int .i64 (at_ l0 im).f0) := (blk_cell Bbb.out 0).trans rfl; have cbb1 : wz.cell? ⟨bb, 1, none⟩ = some (.int .i64 (at_ l0 im).f1) := (blk_cell Bbb.out 1).trans rfl; have Bbc := kbc; clear kbc; have cbc0 : wz.cell? ⟨bc, 0, none⟩ = some (.int .i64 (at_ l0 j).f0) := (blk_cell Bbc.out 0).trans rfl; have cbc1 : wz.cell? ⟨bc, 1, none⟩ = some (.int .i64 (at_ l0 j).f1) := (blk_cell Bbc.out 1).trans rfl; have Bbd := kbd; clear kbd; have cbd0 : wz.cell? ⟨bd, 0, none⟩ = some (.int .i64 (at_ l0 jm).f0) := (blk_cell Bbd.out 0).trans rfl; have cbd1 : wz.cell? ⟨bd, 1, none⟩ = some (.int .i64 (at_ l0 jm).f1) := (blk_cell Bbd.out 1).trans rfl))
              go_roundg k1
              case measure => omega
              case rel => exact ⟨j + 1, by simp, ⟨by omega, by omega, by omega⟩, ⟨fun k' h1 h2 => by rcases Nat.lt_or_eq_of_le (Nat.le_of_lt_succ h1) with h | rfl; exact HM.out k' h h2; exact HBAD⟩, ⟨by exact HB.out⟩⟩
            · refine Halted.intro ?_; go_wp2_with (first | ((with_reducible refine gate_dst (N := 85) rfl ?_); rw [HTJ.out]) | (go_at_call 51; with_reducible refine (spec_l31Meet.calls 1 (at_ l0 i).f0 (at_ l0 i).f1 (at_ l0 im).f0 (at_ l0 im).f1 (at_ l0 j).f0 (at_ l0 j).f1 (at_ l0 jm).f0 (at_ l0 jm).f1 _ _ F.out).mono ?_; rintro e wz ⟨rfl, hb⟩; have n1 := Aside0.mk (below_step HB.out hb); have kba := Aside0.mk (blk_below Bba.out hb); have kbb := Aside0.mk (blk_below Bbb.out hb); have kbc := Aside0.mk (blk_below Bbc.out hb); have kbd := Aside0.mk (blk_below Bbd.out hb); clear HB Bba Bbb Bbc Bbd cba0 cba1 cbb0 cbb1 cbc0 cbc1 cbd0 cbd1; have HB := n1; clear n1 hb; have Bba := kba; clear kba; have cba0 : wz.cell? ⟨ba, 0, none⟩ = some (.int .i64 (at_ l0 i).f0) := (blk_cell Bba.out 0).trans rfl; have cba1 : wz.cell? ⟨ba, 1, none⟩ = some (.int .i64 (at_ l0 i).f1) := (blk_cell Bba.out 1).trans rfl; have Bbb := kbb; clear kbb; have cbb0 : wz.cell? ⟨bb, 0, none⟩ = some (.int .i64 (at_ l0 im).f0) := (blk_cell Bbb.out 0).trans rfl; have cbb1 : wz.cell? ⟨bb, 1, none⟩ = some (.int .i64 (at_ l0 im).f1) := (blk_cell Bbb.out 1).trans rfl; have Bbc := kbc; clear kbc; have cbc0 : wz.cell? ⟨bc, 0, none⟩ = some (.int .i64 (at_ l0 j).f0) := (blk_cell Bbc.out 0).trans rfl; have cbc1 : wz.cell? ⟨bc, 1, none⟩ = some (.int .i64 (at_ l0 j).f1) := (blk_cell Bbc.out 1).trans rfl; have Bbd := kbd; clear kbd; have cbd0 : wz.cell? ⟨bd, 0, none⟩ = some (.int .i64 (at_ l0 jm).f0) := (blk_cell Bbd.out 0).trans rfl; have cbd1 : wz.cell? ⟨bd, 1, none⟩ = some (.int .i64 (at_ l0 jm).f1) := (blk_cell Bbd.out 1).trans rfl))
              go_ret
              exact ⟨qq57, by exact HB.out⟩
        · have hd2 : decide ((j : Int) < (l0.length : Int)) = false := decide_eq_false (by omega)
          go_wp2
          go_roundg ko
          case measure => omega
          case rel => exact ⟨i + 1, by simp, ⟨by omega, by omega⟩, ⟨fun i' h1 k' h2 h3 => by rcases Nat.lt_or_eq_of_le (Nat.le_of_lt_succ h1) with h | rfl; exact HN.out i' h k' h2 h3; exact HM.out k' (by omega) h3⟩, ⟨by exact HB.out⟩⟩
    · have hd : decide ((i : Int) < (l0.length : Int)) = false := decide_eq_false (by omega)
      go_wp2
      go_ret
      have hp : pairsB l0 = true := decide_eq_true fun i' h1 k' h2 h3 => HN.out i' (by omega) k' h2 h3
      exact ⟨by rw [hp]; rfl, by exact HB.out⟩
set_option maxRecDepth 100000 in
set_option maxHeartbeats 4000000 in
theorem specValid_no (A0 : Option Addr) (c0 : Nat) (l0 : List Pt) (w : World) (hr0 : Kd.C k32 w A0 l0.length l0) (hc0 : l0.length ≤ c0) (hl : l0.length ≤ 1048576) (hcv : Pure.cvB l0 = false) :
    Calls Try.prog 19 #[.slice A0 l0.length c0] w fun e w' => e = .returned (.bool false) ∧ Below w.heap.size w w' := by
  have hpts := (Pure.l31Points_eq 1048577 l0 (by omega) (by omega)).trans (congrArg some hcv)
  have HR0 := Aside0.mk hr0
  have HC0 := Aside0.mk hc0
  have HX := Aside0.mk hpts
  clear hr0 hc0 hpts
  go_enter Try.func19, Try.ntmps19
  go_wp2_with (go_at_call 45; refine (spec_l31Points.calls 1048577 _ _ l0 false _ HR0.out HC0.out HX.out).mono ?_; rintro e w1 ⟨rfl, hb⟩; have HB := Aside0.mk hb; clear hb)
  go_ret
  exact ⟨rfl, by exact HB.out⟩
end Go.Proofs.Ytgdhgncdpmalcaa.Ring
namespace Go.Proofs.Ytgdhgncdpmalcaa.Ring
open Go.RowKit Go.Proofs.Ytgdhgncdpmalcaa.Q Go.Proofs.YtgdhgncdpmalcaaW.PrintWords Go.Proofs.YtgdhgncdpmalcaaW.PrintLast Go.Proofs.YtgdhgncdpmalcaaW.PrintMore
theorem onPt_self {p q : Pt} (hp : PVP p) (hq : PVP q) : onPt p q p = true := by
  unfold onPt Pure.onR
  refine decide_eq_true ⟨hp, hq, hp, ?_⟩
  unfold Pure.onP Pure.crs
  refine ⟨by simp, by omega, by omega, by omega, by omega⟩
theorem sameP_iff {p q : Pt} : sameP p q = true ↔ p.f0 = q.f0 ∧ p.f1 = q.f1 := by
  unfold sameP; rw [Bool.and_eq_true, beq_iff_eq, beq_iff_eq]
theorem sameP_comm (p q : Pt) : sameP p q = sameP q p := by
  rw [Bool.eq_iff_iff, sameP_iff, sameP_iff]
  exact ⟨fun h => ⟨h.1.symm, h.2.symm⟩, fun h => ⟨h.1.symm, h.2.symm⟩⟩
theorem meetPt_comm (a b c d : Pt) : meetPt a b c d = meetPt c d a b := by
  unfold meetPt
  rw [Bool.and_comm (decide (sgnP a b c * sgnP a b d < 0))]
  cases onPt a b c <;> cases onPt a b d <;> cases onPt c d a <;> cases onPt c d b <;> rfl
theorem meet_same {a b c d : Pt} (ha : PVP a) (hb : PVP b) (h : sameP c a = true) : meetPt a b c d = true := by
  have e := sameP_iff.1 h
  have : onPt a b c = true := by
    have := onPt_self ha hb
    unfold onPt at this ⊢
    rw [e.1, e.2]; exact this
  unfold meetPt; rw [this]; rfl
theorem mod_in {a n : Nat} (h : a < n) : a % n = a := Nat.mod_eq_of_lt h
theorem mod_out {a n : Nat} (h : n ≤ a) (h' : a < 2 * n) : a % n = a - n := by
  rw [Nat.mod_eq_sub_mod h, Nat.mod_eq_of_lt (by omega)]
theorem wrap_iff {i k n : Nat} (hk : k < n) (hik : i < k) : (k + 1) % n = i ↔ i = 0 ∧ k + 1 = n := by
  by_cases h : k + 1 < n
  · rw [mod_in h]; omega
  · rw [mod_out (by omega) (by omega)]; omega
theorem bad_next {l : List Pt} {i : Nat} (h : i + 1 < l.length) : badAt l i (i + 1) = (sameP (at_ l (i + 1)) (at_ l i) || sameP (nxt l (i + 1)) (at_ l (i + 1)) || foldAt l i) := by
  unfold badAt
  rw [if_pos rfl]
  have e : nxt l i = at_ l (i + 1) := by unfold nxt; rw [mod_in h]
  unfold foldAt
  rw [e, mod_in h, Bool.or_assoc (_ || _)]
theorem bad_wrap {l : List Pt} (h : 3 ≤ l.length) : badAt l 0 (l.length - 1) = foldAt l (l.length - 1) := by
  unfold badAt
  have e1 : (l.length - 1 + 1) % l.length = 0 := by rw [show l.length - 1 + 1 = l.length by omega, Nat.mod_self]
  rw [if_neg (by omega), if_pos e1]
  unfold foldAt
  rw [e1]
  have e : nxt l (l.length - 1) = at_ l 0 := by unfold nxt; rw [e1]
  rw [e]
theorem bad_far {l : List Pt} {i k : Nat} (hk : k < l.length) (h1 : i + 1 < k) (h2 : ¬ (i = 0 ∧ k + 1 = l.length)) : badAt l i k = meetPt (at_ l i) (nxt l i) (at_ l k) (nxt l k) := by
  unfold badAt
  rw [if_neg (by omega), if_neg (fun c => h2 ((wrap_iff hk (by omega)).1 c))]
theorem simple_iff {l : List Pt} : simpleB l = true ↔ (∀ i, i < l.length → ∀ t, t < l.length - 1 → dupAt l i t = false) ∧ ∀ i, i < l.length → foldAt l i = false ∧ ∀ t, t < l.length - 3 → meetAt l i t = false := by
  unfold simpleB
  simp only [Bool.and_eq_true, List.all_eq_true, List.mem_range, Bool.not_eq_true']
theorem pairs_simple {l : List Pt} (hv : Pure.cvB l = true) : pairsB l = simpleB l := by
  have hn := (Pure.cvB_iff.1 hv).1.1
  have pv : ∀ j, j < l.length → PVP (at_ l j) := fun j hj => pv_at hv hj
  have pn : ∀ j, j < l.length → PVP (nxt l j) := fun j hj => pv_at hv (Nat.mod_lt _ (by omega))
  rw [Bool.eq_iff_iff, simple_iff]
  unfold pairsB
  rw [decide_eq_true_eq]
  constructor
  · intro H
    have hnext : ∀ i, i + 1 < l.length → sameP (at_ l (i + 1)) (at_ l i) = false ∧ sameP (nxt l (i + 1)) (at_ l (i + 1)) = false ∧ foldAt l i = false := by
      intro i hi
      have := H i (by omega) (i + 1) hi (by omega)
      rw [bad_next hi, Bool.or_eq_false_iff, Bool.or_eq_false_iff] at this
      exact ⟨this.1.1, this.1.2, this.2⟩
    have hlast : sameP (at_ l 0) (at_ l (l.length - 1)) = false := by
      have := (hnext (l.length - 2) (by omega)).2.1
      rw [show l.length - 2 + 1 = l.length - 1 by omega] at this
      unfold nxt at this
      rw [show l.length - 1 + 1 = l.length by omega, Nat.mod_self] at this
      exact this
    have hdist : ∀ i k, i < k → k < l.length → sameP (at_ l k) (at_ l i) = false := by
      intro i k hik hk
      by_cases h1 : k = i + 1
      · subst h1; exact (hnext i hk).1
      · by_cases h2 : i = 0 ∧ k + 1 = l.length
        · obtain ⟨rfl, h2⟩ := h2
          rw [show k = l.length - 1 by omega, sameP_comm]; exact hlast
        · have := H i (by omega) k hk hik
          rw [bad_far hk (by omega) h2] at this
          apply Bool.eq_false_iff.2
          intro c
          rw [meet_same (pv i (by omega)) (pn i (by omega)) c] at this
          exact absurd this (by decide)
    refine ⟨fun i hi t ht => ?_, fun i hi => ⟨?_, fun t ht => ?_⟩⟩
    · unfold dupAt
      by_cases h : i + 1 + t < l.length
      · rw [mod_in h]; exact hdist i _ (by omega) h
      · rw [mod_out (by omega) (by omega), sameP_comm]; exact hdist _ i (by omega) hi
    · by_cases h : i + 1 < l.length
      · exact (hnext i h).2.2
      · have := H 0 (by omega) (l.length - 1) (by omega) (by omega)
        rw [bad_wrap hn] at this
        rw [show i = l.length - 1 by omega]; exact this
    · unfold meetAt
      by_cases h : i + 2 + t < l.length
      · rw [mod_in h]
        have := H i hi (i + 2 + t) h (by omega)
        rwa [bad_far h (by omega) (by omega)] at this
      · rw [mod_out (by omega) (by omega), meetPt_comm]
        have := H (i + 2 + t - l.length) (by omega) i hi (by omega)
        rwa [bad_far hi (by omega) (by omega)] at this
  · rintro ⟨hd, hf⟩ i hi k hk hik
    by_cases h1 : k = i + 1
    · subst h1
      rw [bad_next hk, (hf i hi).1]
      have d1 := hd i hi 0 (by omega)
      have d2 := hd (i + 1) hk 0 (by omega)
      unfold dupAt at d1 d2
      rw [Nat.add_zero, mod_in hk] at d1
      rw [Nat.add_zero] at d2
      unfold nxt
      rw [d1, d2]; rfl
    · by_cases h2 : i = 0 ∧ k + 1 = l.length
      · obtain ⟨rfl, h2⟩ := h2
        rw [show k = l.length - 1 by omega, bad_wrap hn]
        exact (hf _ (by omega)).1
      · rw [bad_far hk (by omega) h2]
        have := (hf i hi).2 (k - i - 2) (by omega)
        unfold meetAt at this
        rwa [show i + 2 + (k - i - 2) = k by omega, mod_in hk] at this
/-- What the reference answers. -/
theorem specValid (A0 : Option Addr) (c0 : Nat) (l0 : List Pt) (w : World) (hr0 : Kd.C k32 w A0 l0.length l0) (hc0 : l0.length ≤ c0) (hl : l0.length ≤ 1048576) :
    Calls Try.prog 19 #[.slice A0 l0.length c0] w fun e w' => e = .returned (.bool (okS l0)) ∧ Below w.heap.size w w' := by
  unfold okS
  cases h : Pure.cvB l0
  · rw [Bool.false_and]; exact specValid_no A0 c0 l0 w hr0 hc0 hl h
  · rw [Bool.true_and, ← pairs_simple h]; exact specValid_yes A0 c0 l0 w hr0 hc0 h
end Go.Proofs.Ytgdhgncdpmalcaa.Ring
namespace Go.Proofs.Ytgdhgncdpmalcaa.Q
open Go.RowKit Go.Proofs.YtgdhgncdpmalcaaW.PrintWords Go.Proofs.YtgdhgncdpmalcaaW.PrintLast Go.Proofs.YtgdhgncdpmalcaaW.PrintMore
attribute [local go_sem] max2_int min2_int max_two min_two max_three min_three max_four min_four
set_option linter.unusedVariables false
set_option linter.unusedSimpArgs false

/-! ### spec_PolyValid: function 19 -/
def spec_PolyValid.f (l0 : List (S32)) : Option (Bool) := if l0.length ≤ 1048576 then some (Go.Proofs.Ytgdhgncdpmalcaa.Ring.okS l0) else none
theorem spec_PolyValid.calls (A0 : Option Addr) (c0 : Nat) (l0 : List (S32)) (r : Bool) (w : World) (hr0 : Kd.C k32 w A0 l0.length l0) (hc0 : l0.length ≤ c0) (h : spec_PolyValid.f l0 = some r) :
    Calls Try.prog 19 #[.slice A0 l0.length c0] w fun e w' => e = .returned (.bool r) ∧ Below w.heap.size w w' := by
  unfold spec_PolyValid.f at h
  by_cases c : l0.length ≤ 1048576
  · rw [if_pos c] at h
    obtain rfl := Option.some.inj h
    exact Go.Proofs.Ytgdhgncdpmalcaa.Ring.specValid A0 c0 l0 w hr0 hc0 c
  · rw [if_neg c] at h
    exact absurd h (by simp)

end Go.Proofs.Ytgdhgncdpmalcaa.Q
namespace Go.Proofs.Ytgdhgncdpmalcaa.Q
open Go.RowKit Go.Proofs.YtgdhgncdpmalcaaW.PrintWords Go.Proofs.YtgdhgncdpmalcaaW.PrintLast Go.Proofs.YtgdhgncdpmalcaaW.PrintMore
attribute [local go_sem] max2_int min2_int max_two min_two max_three min_three max_four min_four
set_option linter.unusedVariables false
set_option linter.unusedSimpArgs false

/-! ### spec_PolyEdge: function 70 -/
def spec_PolyEdge.l0 : Nat → List (S32) → Int → Int → Option (Int)
  | 0, _, _, _ => none
  | k + 1, x0, x3, x4 => if x4 < (x0.length : Int) then (if 0 ≤ x4 then (if (x0.length : Int) = 0 then (none) else (if 0 ≤ (Int.tmod (wrap64 (x4 + 1)) (x0.length : Int)) then (if (Int.tmod (wrap64 (x4 + 1)) (x0.length : Int)) < (x0.length : Int) then ((spec_PointGaps.f k ((rd_T32 x0 x4).f0) ((rd_T32 x0 x4).f1) ((rd_T32 x0 (Int.tmod (wrap64 (x4 + 1)) (x0.length : Int))).f0) ((rd_T32 x0 (Int.tmod (wrap64 (x4 + 1)) (x0.length : Int))).f1)).bind fun t783 => (spec_PolyEdge.l0 k x0 (wrap64 (x3 + t783)) (wrap64 (x4 + 1)))) else (none)) else (none))) else (none)) else (some x3)
def spec_PolyEdge.f (k : Nat) (l0 : List (S32)) : Option (Int) := (spec_PolyValid.f l0).bind fun t780 => (if t780 = true then (spec_PolyEdge.l0 k l0 0 0) else (some (-1)))
def spec_PolyEdge.T7 : Bool × List (List Nat × List Nat) := (true, [([], []), ([], []), ([], []), ([1, 2], [1, 2]), ([3], [3]), ([], []), ([], []), ([6], [6]), ([], []), ([8], [8]), ([7, 9], [7, 9]), ([5, 10], [5, 10]), ([11], [11]), ([4, 12], [4, 12]), ([0, 13], [0, 13]), ([14, 13, 0, 1, 2, 3, 4, 5, 6, 7, 8, 9, 10, 11, 12, 13, 14], [0, 14])])
def spec_PolyEdge.B7 : List Nat := [0, 0, 0, 6, 14, 0, 0, 64, 0, 256, 960, 2016, 4064, 8190, 16383, 32767]
theorem spec_PolyEdge.tab7 : rtab .any (opsOf Try.f70 7) = spec_PolyEdge.T7 := by kernel_rfl
theorem spec_PolyEdge.bits7 : waitsOk spec_PolyEdge.T7.2 spec_PolyEdge.B7 = true := by kernel_rfl
set_option maxHeartbeats 8000000 in
set_option maxRecDepth 100000 in
theorem spec_PolyEdge.calls (k : Nat) (A0 : Option Addr) (c0 : Nat) (l0 : List (S32)) (r : Int) (w : World) (hr0 : Kd.C k32 w A0 l0.length l0) (hc0 : l0.length ≤ c0) (h : spec_PolyEdge.f k l0 = some r) :
    Calls Try.prog 70 #[.slice A0 l0.length c0] w fun e w' => e = .returned (.int .i64 r) ∧ Below w.heap.size w w' := by
  have hu32 := Try.underlying32
  have HR0 := Aside0.mk hr0
  have HC0 := Aside0.mk hc0
  clear hr0 hc0
  have HB := Aside0.mk (Below.refl w.heap.size w)
  have H : ((spec_PolyValid.f l0).bind fun t780 => (if t780 = true then (spec_PolyEdge.l0 k l0 0 0) else (some (-1)))) = some r := h
  clear h
  replace H := Option.bind_eq_some_iff.mp H
  obtain ⟨t780, A20, H⟩ := H
  replace H : (if t780 = true then (spec_PolyEdge.l0 k l0 0 0) else (some (-1))) = some r := H
  have A2 := Aside0.mk A20
  clear A20
  by_cases c3 : t780 = true
  · subst c3
    have H1 : (spec_PolyEdge.l0 k l0 0 0) = some r := by rw [if_pos rfl] at H; exact H
    clear H
    have H := H1
    clear H1
    have H' := Aside0.mk H
    clear H
    go_enter Try.func70, Try.ntmps70
    go_wp2_with (first | ((with_reducible refine gate_callee (f := 19) rfl ?_); refine goesL_ (some 6) rfl rfl Try.func19 (by kernel_rfl) rfl #[.slice A0 l0.length c0] rfl qq2 ?_; (with_reducible refine (spec_PolyValid.calls _ _ l0 true _ ?side1 ?side2 A2.out).mono ?_); (case side1 => exact qq29); (case side2 => exact HC0.out); rintro e w4 ⟨rfl, hb⟩; refine ⟨_, rfl, ?_⟩; have n0_ := Aside0.mk (below_step qq1 hb); clear HB; have HB := n0_; clear n0_; (try clear hb); (try clear hb2); (try clear hk); (try clear hi)))
    go_loopg [3, 4] k (fun kq v3 v4 w' => ∃ (x3_1 : Int) (x4_1 : Int), v3 = .int .i64 x3_1 ∧ v4 = .int .i64 x4_1 ∧ Aside0 (spec_PolyEdge.l0 kq l0 x3_1 x4_1 = some r) ∧ Aside0 (kq ≤ k) ∧ Aside0 (Below w.heap.size w w'))
    case atStart => exact ⟨(0), (0), qq13, qq13, H', ⟨Nat.le_refl _⟩, ⟨qq1⟩⟩
    case round =>
      clear H'
      try clear c1
      try clear p2
      try clear c3
      obtain ⟨x3_1, x4_1, rfl, rfl, HA, HK1, HB⟩ := hrel
      cases gk with
      | zero => exact absurd HA.out (by simp [spec_PolyEdge.l0])
      | succ k1 =>
        have H := HA.out
        clear HA
        simp only [spec_PolyEdge.l0] at H
        by_cases c5 : x4_1 < (l0.length : Int)
        · rw [if_pos c5] at H
          have c5b0 : decide (x4_1 < (l0.length : Int)) = true := decide_eq_true c5
          clear c5
          by_cases c6 : 0 ≤ x4_1
          · rw [if_pos c6] at H
            have c6b0 : decide (0 ≤ x4_1) = true := decide_eq_true c6
            clear c6
            by_cases c7 : (l0.length : Int) = 0
            · rw [if_pos c7] at H
              exact absurd H (by simp)
            · rw [if_neg c7] at H
              have c7b0 : ((l0.length : Int) == 0) = false := beq_eq_false_iff_ne.mpr c7
              have c7b1 : ((l0.length : Int) != 0) = true := bne_iff_ne.mpr c7
              have c7b2 : ¬ (l0 = []) := fun h_ => c7 (by rw [h_]; rfl)
              obtain ⟨ji8, hji8⟩ : ∃ j_ : Int, (Int.tmod (wrap64 (x4_1 + 1)) (l0.length : Int)) = j_ := ⟨_, rfl⟩
              replace H : (if 0 ≤ (ji8) then (if (ji8) < (l0.length : Int) then ((spec_PointGaps.f k1 ((rd_T32 l0 x4_1).f0) ((rd_T32 l0 x4_1).f1) ((rd_T32 l0 (ji8)).f0) ((rd_T32 l0 (ji8)).f1)).bind fun t783 => (spec_PolyEdge.l0 k1 l0 (wrap64 (x3_1 + t783)) (wrap64 (x4_1 + 1)))) else (none)) else (none)) = some r := by first | (rw [hji8] at H; exact H) | (simp only [hji8] at H ⊢; exact H)
              by_cases c9 : 0 ≤ (ji8)
              · rw [if_pos c9] at H
                have c9b0 : decide (0 ≤ (ji8)) = true := decide_eq_true c9
                clear c9
                by_cases c10 : (ji8) < (l0.length : Int)
                · rw [if_pos c10] at H
                  have c10b0 : decide ((ji8) < (l0.length : Int)) = true := decide_eq_true c10
                  clear c10
                  replace H := Option.bind_eq_some_iff.mp H
                  obtain ⟨t783, A110, H⟩ := H
                  replace H : (spec_PolyEdge.l0 k1 l0 (wrap64 (x3_1 + t783)) (wrap64 (x4_1 + 1))) = some r := H
                  have A11 := Aside0.mk A110
                  clear A110
                  have H' := Aside0.mk H
                  clear H
                  try go_wp2
                  have n0_ := Aside0.mk (below_drew1 HB.out)
                  clear HB
                  have HB := n0_
                  clear n0_
                  have p781 : 0 ≤ (x4_1 : Int) := of_decide_eq_true qq18
                  have q781 : x4_1 < (l0.length : Int) := of_decide_eq_true qq18
                  obtain ⟨ad781, e781, hx781_0, hx781_1⟩ := at_T32 HR0.out x4_1 p781 q781
                  have hw781_1 := hx781_1
                  have hw781_0 := hx781_0
                  cases e781
                  replace hx781_0 := (HB.out.cell (World.block_lt_of_cell? w _ hx781_0)).trans hx781_0
                  replace hx781_1 := (HB.out.cell (World.block_lt_of_cell? w _ hx781_1)).trans hx781_1
                  replace p781 := eq_true p781
                  replace q781 := eq_true q781
                  have p782 : 0 ≤ ((ji8) : Int) := of_decide_eq_true qq18
                  have q782 : (ji8) < (l0.length : Int) := of_decide_eq_true qq18
                  obtain ⟨ad782, e782, hx782_0, hx782_1⟩ := at_T32 HR0.out (ji8) p782 q782
                  have hw782_1 := hx782_1
                  have hw782_0 := hx782_0
                  obtain rfl : ad781 = ad782 := (by injection e782)
                  replace hx782_0 := (HB.out.cell (World.block_lt_of_cell? w _ hx782_0)).trans hx782_0
                  replace hx782_1 := (HB.out.cell (World.block_lt_of_cell? w _ hx782_1)).trans hx782_1
                  replace p782 := eq_true p782
                  replace q782 := eq_true q782
                  refine start_ (n := 16) (S := fun w' => w'.cell? (ad781.add ((x4_1).toNat * 2)) = some (.int .i64 ((rd_T32 l0 x4_1).f0)) ∧ w'.cell? ⟨(ad781.add ((x4_1).toNat * 2)).block, (ad781.add ((x4_1).toNat * 2)).off + 1, none⟩ = some (.int .i64 ((rd_T32 l0 x4_1).f1)) ∧ w'.cell? (ad781.add (((ji8)).toNat * 2)) = some (.int .i64 ((rd_T32 l0 (ji8)).f0)) ∧ w'.cell? ⟨(ad781.add (((ji8)).toNat * 2)).block, (ad781.add (((ji8)).toNat * 2)).off + 1, none⟩ = some (.int .i64 ((rd_T32 l0 (ji8)).f1))) (ds := []) #[false, false, false, false, false, false, false, false, false, false, false, false, false, false, false, false] (by kernel_rfl) rfl rfl ⟨((HB.out.cell (World.block_lt_of_cell? w _ hw781_0)).trans hw781_0), ((HB.out.cell (World.block_lt_of_cell? w _ hw781_1)).trans hw781_1), ((HB.out.cell (World.block_lt_of_cell? w _ hw782_0)).trans hw782_0), ((HB.out.cell (World.block_lt_of_cell? w _ hw782_1)).trans hw782_1)⟩ (fun hHeld => ?_); refine with_tabW spec_PolyEdge.tab7 spec_PolyEdge.bits7 (fun HT_ HW_ => ?_)
                  generalize wr.drew = w12 at HB hx781_0 hx781_1 hx782_0 hx782_1 hHeld ⊢
                  refine pure_ (i := 0) (N := some 14) #[true, false, false, false, false, false, false, false, false, false, false, false, false, false, false, false] rfl rfl (any_of HT_.out (by kernel_rfl)) (fun _ _ _ h => h) (Or.inl ⟨by rfl, pA_⟩) pB_ ?_
                  refine pure_ (i := 1) (N := some 15) #[true, true, false, false, false, false, false, false, false, false, false, false, false, false, false, false] rfl rfl (any_of HT_.out (by kernel_rfl)) (fun _ _ _ h => h) (Or.inl ⟨by rfl, pA_⟩) pB_ ?_
                  refine pure_ (i := 2) (N := some 16) #[true, true, true, false, false, false, false, false, false, false, false, false, false, false, false, false] rfl rfl (any_of HT_.out (by kernel_rfl)) (fun _ _ _ h => h) (Or.inl ⟨by rfl, pA_⟩) pB_ ?_
                  refine pure_ (i := 3) (N := some 17) #[true, true, true, true, false, false, false, false, false, false, false, false, false, false, false, false] rfl rfl (any_of HT_.out (by kernel_rfl)) (fun _ _ _ h => h) (Or.inl ⟨by rfl, pA_⟩) pB_ ?_
                  refine pure_ (i := 5) (N := some 19) #[true, true, true, true, false, true, false, false, false, false, false, false, false, false, false, false] rfl rfl (any_of HT_.out (by kernel_rfl)) (fun _ _ _ h => h) (Or.inl ⟨by rfl, pA_⟩) pB_ ?_
                  refine pure_ (i := 6) (N := some 20) #[true, true, true, true, false, true, true, false, false, false, false, false, false, false, false, false] rfl rfl (any_of HT_.out (by kernel_rfl)) (fun _ _ _ h => h) (Or.inl ⟨by rfl, pA_⟩) pB_ ?_
                  refine pure_ (i := 7) (N := some 21) #[true, true, true, true, false, true, true, true, false, false, false, false, false, false, false, false] rfl rfl (any_of HT_.out (by kernel_rfl)) (fun _ _ _ h => h) (Or.inl ⟨by rfl, pA_⟩) pB_ ?_
                  refine pure_ (i := 8) (N := some 22) #[true, true, true, true, false, true, true, true, true, false, false, false, false, false, false, false] rfl rfl (any_of HT_.out (by kernel_rfl)) (fun _ _ _ h => h) (Or.inl ⟨by rfl, pA_⟩) pB_ ?_
                  refine pure_ (i := 9) (N := some 23) #[true, true, true, true, false, true, true, true, true, true, false, false, false, false, false, false] rfl rfl (any_of HT_.out (by kernel_rfl)) (fun _ _ _ h => h) (Or.inl ⟨by rfl, pA_⟩) pB_ ?_
                  refine pure_ (i := 10) (N := some 24) #[true, true, true, true, false, true, true, true, true, true, true, false, false, false, false, false] rfl rfl (any_of HT_.out (by kernel_rfl)) (fun _ _ _ h => h) (Or.inl ⟨by rfl, pA_⟩) pB_ ?_
                  refine pure_ (i := 11) (N := some 25) #[true, true, true, true, false, true, true, true, true, true, true, true, false, false, false, false] rfl rfl (any_of HT_.out (by kernel_rfl)) (fun _ _ _ h => h) (Or.inl ⟨by rfl, pA_⟩) pB_ ?_
                  refine take_ (i := 4) (N := some 18) (v := ?_) (a' := ?_) #[true, true, true, true, true, true, true, true, true, true, true, true, false, false, false, false] rfl rfl (take_ofW HT_.out HW_.out (by kernel_rfl)) (fun _ _ _ h => h) (Or.inl ⟨by rfl, ?_⟩) hHeld ?_ ?_
                  rotate_left
                  · rintro w' ⟨s0, s1, s2, s3⟩
                    go_simp
                    with_reducible rfl
                  rotate_left
                  · simp only [Act.put, List.setIfInBounds_toArray, List.set_cons_zero, List.set_cons_succ, i64_w, i32_w]
                    rfl
                  refine take_ (i := 12) (N := some 26) (v := ?_) (a' := ?_) #[true, true, true, true, true, true, true, true, true, true, true, true, true, false, false, false] rfl rfl (take_ofW HT_.out HW_.out (by kernel_rfl)) (fun _ _ _ h => h) (Or.inl ⟨by rfl, ?_⟩) hHeld ?_ ?_
                  rotate_left
                  · rintro w' ⟨s0, s1, s2, s3⟩
                    go_simp
                    with_reducible rfl
                  rotate_left
                  · simp only [Act.put, List.setIfInBounds_toArray, List.set_cons_zero, List.set_cons_succ, i64_w, i32_w]
                    rfl
                  refine one_ (i := 13) (N := some 27) #[true, true, true, true, true, true, true, true, true, true, true, true, true, true, false, false] rfl rfl (one_of HT_.out (by kernel_rfl)) (by decide) (fun K hK => ?_)
                  refine goes_ Try.func82 (by kernel_rfl) rfl #[.agg #[.int .i64 ((rd_T32 l0 x4_1).f0), .int .i64 ((rd_T32 l0 x4_1).f1)], .agg #[.int .i64 ((rd_T32 l0 (ji8)).f0), .int .i64 ((rd_T32 l0 (ji8)).f1)]] (by rfl) rfl rfl (by (try simp only [List.map_toArray, List.map_cons, List.map_nil]); first | done | (simp only [hji8]; rfl) | rfl | (simp only [List.length_drop, List.length_take]; rfl)) ?_
                  with_reducible refine (spec_PointGaps.calls k1 ((rd_T32 l0 x4_1).f0) ((rd_T32 l0 x4_1).f1) ((rd_T32 l0 (ji8)).f0) ((rd_T32 l0 (ji8)).f1) t783 _ A11.out).mono ?_
                  rintro e w13 ⟨rfl, hb⟩
                  refine ⟨_, rfl, ?_⟩
                  have n0_ := Aside0.mk (below_step qq1 hb)
                  clear HB
                  have HB := n0_
                  clear n0_
                  (try clear hb)
                  (try clear hb2)
                  (try clear hk)
                  (try clear hi)
                  refine hK.out _ _ ⟨((HB.out.cell (World.block_lt_of_cell? w _ hw781_0)).trans hw781_0), ((HB.out.cell (World.block_lt_of_cell? w _ hw781_1)).trans hw781_1), ((HB.out.cell (World.block_lt_of_cell? w _ hw782_0)).trans hw782_0), ((HB.out.cell (World.block_lt_of_cell? w _ hw782_1)).trans hw782_1)⟩ (fun hHeld => ?_)
                  clear hK K
                  refine norm_ (a' := ?_) ?_ ?_
                  rotate_left
                  · show Act.put _ (some 27) _ = _
                    simp only [Act.put, List.setIfInBounds_toArray, List.set_cons_zero, List.set_cons_succ, i64_w, i32_w]
                    rfl
                  refine pure_ (i := 14) (N := some 28) #[true, true, true, true, true, true, true, true, true, true, true, true, true, true, true, false] rfl rfl (any_of HT_.out (by kernel_rfl)) (fun _ _ _ h => h) (Or.inl ⟨by rfl, pA_⟩) pB_ ?_
                  refine pure_ (i := 15) (N := some 3) #[true, true, true, true, true, true, true, true, true, true, true, true, true, true, true, true] rfl rfl (any_of HT_.out (by kernel_rfl)) (fun _ _ _ h => h) (Or.inl ⟨by rfl, pA_⟩) pB_ ?_
                  refine done_ (done_of HT_.out (by kernel_rfl)) ?_
                  try go_wp2
                  go_roundg k1
                  case measure => have := HK1.out; omega
                  case rel => exact ⟨(wrap64 (x3_1 + t783)), (wrap64 (x4_1 + 1)), qq13, qq13, H', ⟨by have := HK1.out; omega⟩, ⟨qq1⟩⟩
                · rw [if_neg c10] at H
                  exact absurd H (by simp)
              · rw [if_neg c9] at H
                exact absurd H (by simp)
          · rw [if_neg c6] at H
            exact absurd H (by simp)
        · rw [if_neg c5] at H
          have c5b0 : decide (x4_1 < (l0.length : Int)) = false := decide_eq_false c5
          clear c5
          obtain rfl := Option.some.inj H
          go_wp2
          go_ret
          exact ⟨qq12, qq1⟩
  · replace c3 := Bool.eq_false_iff.mpr c3
    subst c3
    have H1 : (some (-1)) = some r := by rw [if_neg (show ¬ (false = true) by decide)] at H; exact H
    clear H
    have H := H1
    clear H1
    obtain rfl := Option.some.inj H
    go_enter Try.func70, Try.ntmps70
    go_wp2_with (first | ((with_reducible refine gate_callee (f := 19) rfl ?_); refine goesL_ (some 6) rfl rfl Try.func19 (by kernel_rfl) rfl #[.slice A0 l0.length c0] rfl qq2 ?_; (with_reducible refine (spec_PolyValid.calls _ _ l0 false _ ?side1 ?side2 A2.out).mono ?_); (case side1 => exact qq29); (case side2 => exact HC0.out); rintro e w14 ⟨rfl, hb⟩; refine ⟨_, rfl, ?_⟩; have n0_ := Aside0.mk (below_step qq1 hb); clear HB; have HB := n0_; clear n0_; (try clear hb); (try clear hb2); (try clear hk); (try clear hi)))
    go_ret
    exact ⟨qq12, qq1⟩

end Go.Proofs.Ytgdhgncdpmalcaa.Q
namespace Go.Proofs.Ytgdhgncdpmalcaa.Q
open Go.RowKit Go.Proofs.YtgdhgncdpmalcaaW.PrintWords Go.Proofs.YtgdhgncdpmalcaaW.PrintLast Go.Proofs.YtgdhgncdpmalcaaW.PrintMore
attribute [local go_sem] max2_int min2_int max_two min_two max_three min_three max_four min_four
set_option linter.unusedVariables false
set_option linter.unusedSimpArgs false

/-! ### spec_PolyInside: function 39 -/
def spec_PolyInside.f (k : Nat) (l0 : List (S32)) : Option (Int) := (spec_PolyEdge.f k l0).bind fun t784 => (if t784 < 0 then (some (-1)) else ((spec_l31Area.f k l0).bind fun t785 => ((spec_l1Size.f t785).bind fun t786 => (some (wrap64 (Int.tdiv (wrap64 ((wrap64 (t786 - t784)) + 2)) 2))))))
set_option maxHeartbeats 8000000 in
set_option maxRecDepth 100000 in
theorem spec_PolyInside.calls (k : Nat) (A0 : Option Addr) (c0 : Nat) (l0 : List (S32)) (r : Int) (w : World) (hr0 : Kd.C k32 w A0 l0.length l0) (hc0 : l0.length ≤ c0) (h : spec_PolyInside.f k l0 = some r) :
    Calls Try.prog 39 #[.slice A0 l0.length c0] w fun e w' => e = .returned (.int .i64 r) ∧ Below w.heap.size w w' := by
  have HR0 := Aside0.mk hr0
  have HC0 := Aside0.mk hc0
  clear hr0 hc0
  have HB := Aside0.mk (Below.refl w.heap.size w)
  have H : ((spec_PolyEdge.f k l0).bind fun t784 => (if t784 < 0 then (some (-1)) else ((spec_l31Area.f k l0).bind fun t785 => ((spec_l1Size.f t785).bind fun t786 => (some (wrap64 (Int.tdiv (wrap64 ((wrap64 (t786 - t784)) + 2)) 2))))))) = some r := h
  clear h
  replace H := Option.bind_eq_some_iff.mp H
  obtain ⟨t784, A20, H⟩ := H
  replace H : (if t784 < 0 then (some (-1)) else ((spec_l31Area.f k l0).bind fun t785 => ((spec_l1Size.f t785).bind fun t786 => (some (wrap64 (Int.tdiv (wrap64 ((wrap64 (t786 - t784)) + 2)) 2)))))) = some r := H
  have A2 := Aside0.mk A20
  clear A20
  by_cases c3 : t784 < 0
  · rw [if_pos c3] at H
    have c3b0 : decide (t784 < 0) = true := decide_eq_true c3
    clear c3
    obtain rfl := Option.some.inj H
    go_enter Try.func39, Try.ntmps39
    go_wp2_with (first | ((with_reducible refine gate_callee (f := 70) rfl ?_); refine goesL_ (some 5) rfl rfl Try.func70 (by kernel_rfl) rfl #[.slice A0 l0.length c0] rfl qq2 ?_; (with_reducible refine (spec_PolyEdge.calls k _ _ l0 t784 _ ?side1 ?side2 A2.out).mono ?_); (case side1 => exact qq29); (case side2 => exact HC0.out); rintro e w4 ⟨rfl, hb⟩; refine ⟨_, rfl, ?_⟩; have n0_ := Aside0.mk (below_step qq1 hb); clear HB; have HB := n0_; clear n0_; (try clear hb); (try clear hb2); (try clear hk); (try clear hi)))
    go_ret
    exact ⟨qq12, qq1⟩
  · rw [if_neg c3] at H
    have c3b0 : decide (t784 < 0) = false := decide_eq_false c3
    clear c3
    replace H := Option.bind_eq_some_iff.mp H
    obtain ⟨t785, A50, H⟩ := H
    replace H : ((spec_l1Size.f t785).bind fun t786 => (some (wrap64 (Int.tdiv (wrap64 ((wrap64 (t786 - t784)) + 2)) 2)))) = some r := H
    have A5 := Aside0.mk A50
    clear A50
    replace H := Option.bind_eq_some_iff.mp H
    obtain ⟨t786, A60, H⟩ := H
    replace H : (some (wrap64 (Int.tdiv (wrap64 ((wrap64 (t786 - t784)) + 2)) 2))) = some r := H
    have A6 := Aside0.mk A60
    clear A60
    obtain rfl := Option.some.inj H
    go_enter Try.func39, Try.ntmps39
    go_wp2_with (first | ((with_reducible refine gate_callee (f := 70) rfl ?_); refine goesL_ (some 5) rfl rfl Try.func70 (by kernel_rfl) rfl #[.slice A0 l0.length c0] rfl qq2 ?_; (with_reducible refine (spec_PolyEdge.calls k _ _ l0 t784 _ ?side1 ?side2 A2.out).mono ?_); (case side1 => exact qq29); (case side2 => exact HC0.out); rintro e w7 ⟨rfl, hb⟩; refine ⟨_, rfl, ?_⟩; have n0_ := Aside0.mk (below_step qq1 hb); clear HB; have HB := n0_; clear n0_; (try clear hb); (try clear hb2); (try clear hk); (try clear hi)) | ((with_reducible refine gate_callee (f := 46) rfl ?_); refine goesL_ (some 9) rfl rfl Try.func46 (by kernel_rfl) rfl #[.slice A0 l0.length c0] rfl qq2 ?_; (with_reducible refine (spec_l31Area.calls k _ _ l0 t785 _ ?side1 ?side2 A5.out).mono ?_); (case side1 => repeat (first | exact (Kd.C_below HR0.out HB.out) | (with_reducible refine Kd.C_alloc ?_ _) | (with_reducible refine Kd.C_drewN ?_ _) | (with_reducible refine Kd.C_drew ?_))); (case side2 => exact HC0.out); rintro e w8 ⟨rfl, hb⟩; refine ⟨_, rfl, ?_⟩; have n0_ := Aside0.mk (below_step qq1 hb); clear HB; have HB := n0_; clear n0_; (try clear hb); (try clear hb2); (try clear hk); (try clear hi)) | ((with_reducible refine gate_callee (f := 71) rfl ?_); refine goesL_ (some 10) rfl rfl Try.func71 (by kernel_rfl) rfl #[.int .i64 t785] rfl qq2 ?_; (with_reducible refine (spec_l1Size.calls t785 t786 _ A6.out).mono ?_); rintro e w9 ⟨rfl, hb⟩; refine ⟨_, rfl, ?_⟩; have n0_ := Aside0.mk (below_step qq1 hb); clear HB; have HB := n0_; clear n0_; (try clear hb); (try clear hb2); (try clear hk); (try clear hi)))
    go_ret
    exact ⟨qq12, qq1⟩

end Go.Proofs.Ytgdhgncdpmalcaa.Q
namespace Go.Proofs.Ytgdhgncdpmalcaa.Q
open Go.RowKit Go.Proofs.YtgdhgncdpmalcaaW.PrintWords Go.Proofs.YtgdhgncdpmalcaaW.PrintLast Go.Proofs.YtgdhgncdpmalcaaW.PrintMore
attribute [local go_sem] max2_int min2_int max_two min_two max_three min_three max_four min_four
set_option linter.unusedVariables false
set_option linter.unusedSimpArgs false

/-! ### impl_PolyEdge: function 40 -/
def impl_PolyEdge.f (l0 : List (S32)) : Option (Int) := if Go.Proofs.Ytgdhgncdpmalcaa.Ring.okS l0 then some (Go.Proofs.Ytgdhgncdpmalcaa.Ring.edgeS l0 l0.length) else some (-1)
theorem impl_PolyEdge.calls (A0 : Option Addr) (c0 : Nat) (l0 : List (S32)) (r : Int) (w : World) (hr0 : Kd.C k32 w A0 l0.length l0) (hc0 : l0.length ≤ c0) (h : impl_PolyEdge.f l0 = some r) :
    Calls Try.prog 40 #[.slice A0 l0.length c0] w fun e w' => e = .returned (.int .i64 r) ∧ Below w.heap.size w w' := by
  unfold impl_PolyEdge.f at h
  by_cases c : Go.Proofs.Ytgdhgncdpmalcaa.Ring.okS l0 = true
  · rw [if_pos c] at h
    obtain rfl := Option.some.inj h
    exact Go.Proofs.Ytgdhgncdpmalcaa.Ring.polyEdge_yes A0 c0 l0 w hr0 hc0 c
  · rw [if_neg c] at h
    obtain rfl := Option.some.inj h
    exact Go.Proofs.Ytgdhgncdpmalcaa.Ring.polyEdge_no A0 c0 l0 w hr0 hc0 (Bool.eq_false_iff.2 c)

end Go.Proofs.Ytgdhgncdpmalcaa.Q
namespace Go.Proofs.Ytgdhgncdpmalcaa.Q
open Go.RowKit Go.Proofs.YtgdhgncdpmalcaaW.PrintWords Go.Proofs.YtgdhgncdpmalcaaW.PrintLast Go.Proofs.YtgdhgncdpmalcaaW.PrintMore
attribute [local go_sem] max2_int min2_int max_two min_two max_three min_three max_four min_four
set_option linter.unusedVariables false
set_option linter.unusedSimpArgs false

/-! ### laws_FnPick: function 10 -/
mutual
def laws_FnPick.j0 : Nat → List (S32) → Int → Int → Bool → Option (Bool)
  | 0, _, _, _, _ => none
  | k + 1, x3, x4, x5, x33 => if x33 = true then (some (x4 == x5)) else ((impl_PolyArea.f x3).bind fun bt792 => ((impl_PolyEdge.f x3).bind fun t794 => (if (mx bt792.1 (wrap64 (-bt792.1))) = (wrap64 ((wrap64 ((wrap64 (2 * x4)) + t794)) - 2)) then (if 0 < (x3.length : Int) then (laws_FnPick.l0 k x3 x4 bt792.2 t794 0 ((rd_T32 x3 0).f0) ((rd_T32 x3 0).f1) ((rd_T32 x3 0).f0) ((rd_T32 x3 0).f1)) else (none)) else (some false))))
def laws_FnPick.l0 : Nat → List (S32) → Int → Bool → Int → Int → Int → Int → Int → Int → Option (Bool)
  | 0, _, _, _, _, _, _, _, _, _ => none
  | k + 1, x3, x4, x7, x8, x11, x797000, x797001, x799000, x799001 => if x11 < (x3.length : Int) then (if 0 ≤ x11 then (laws_FnPick.l0 k x3 x4 x7 x8 (wrap64 (x11 + 1)) (mn x797000 ((rd_T32 x3 x11).f0)) (mn x797001 ((rd_T32 x3 x11).f1)) (mx x799000 ((rd_T32 x3 x11).f0)) (mx x799001 ((rd_T32 x3 x11).f1))) else (none)) else (if (wrap64 (x799000 - x797000)) > 20 then (laws_FnPick.j2 k x3 x4 x7 x8 true x797000 x797001 x799000 x799001) else (laws_FnPick.j2 k x3 x4 x7 x8 (decide ((wrap64 (x799001 - x797001)) > 20)) x797000 x797001 x799000 x799001))
def laws_FnPick.j2 : Nat → List (S32) → Int → Bool → Int → Bool → Int → Int → Int → Int → Option (Bool)
  | 0, _, _, _, _, _, _, _, _, _ => none
  | k + 1, x3, x4, x7, x8, x113, x797000, x797001, x799000, x799001 => if x113 = true then (some x7) else (laws_FnPick.l1 k x3 x4 x7 x8 0 0 x797000 x797000 x797001 x799000 x799001)
def laws_FnPick.l1 : Nat → List (S32) → Int → Bool → Int → Int → Int → Int → Int → Int → Int → Int → Option (Bool)
  | 0, _, _, _, _, _, _, _, _, _, _, _ => none
  | k + 1, x3, x4, x7, x8, x12, x13, x14, x797000, x797001, x799000, x799001 => if x14 ≤ x799000 then (laws_FnPick.l2 k x3 x4 x7 x8 x12 x13 x14 x797001 x797000 x797001 x799000 x799001) else (if x7 = true then (if x12 = x4 then (some (x13 == x8)) else (some false)) else (some false))
def laws_FnPick.l2 : Nat → List (S32) → Int → Bool → Int → Int → Int → Int → Int → Int → Int → Int → Int → Option (Bool)
  | 0, _, _, _, _, _, _, _, _, _, _, _, _ => none
  | k + 1, x3, x4, x7, x8, x12, x13, x14, x15, x797000, x797001, x799000, x799001 => if x15 ≤ x799001 then ((impl_PolyPlace.f x3 x14 x15).bind fun bt803 => (if bt803.2 = true then (if bt803.1 = 1 then (if bt803.1 = 0 then (laws_FnPick.l2 k x3 x4 x7 x8 (wrap64 (x12 + 1)) (wrap64 (x13 + 1)) x14 (wrap64 (x15 + 1)) x797000 x797001 x799000 x799001) else (laws_FnPick.l2 k x3 x4 x7 x8 (wrap64 (x12 + 1)) x13 x14 (wrap64 (x15 + 1)) x797000 x797001 x799000 x799001)) else (if bt803.1 = 0 then (laws_FnPick.l2 k x3 x4 x7 x8 x12 (wrap64 (x13 + 1)) x14 (wrap64 (x15 + 1)) x797000 x797001 x799000 x799001) else (laws_FnPick.l2 k x3 x4 x7 x8 x12 x13 x14 (wrap64 (x15 + 1)) x797000 x797001 x799000 x799001))) else (some false))) else (laws_FnPick.l1 k x3 x4 x7 x8 x12 x13 (wrap64 (x14 + 1)) x797000 x797001 x799000 x799001)
end
def laws_FnPick.f (k : Nat) (l0 : List Int) : Option (Bool) := if (l0.length : Int) > 1048576 then (some true) else ((spec_DrawPolyInside.f k l0).bind fun t787 => ((impl_PolyInside.f t787).bind fun t790 => ((spec_PolyInside.f k t787).bind fun t791 => (if t790 = t791 then (laws_FnPick.j0 k t787 t790 t791 (decide (t790 < 0))) else (laws_FnPick.j0 k t787 t790 t791 true)))))
def laws_FnPick.T17 : Bool × List (List Nat × List Nat) := (true, [([], []), ([0], [0]), ([], []), ([], []), ([2, 3], [2, 3]), ([4], [4]), ([5], [5]), ([1, 6], [1, 6]), ([], []), ([8], [8]), ([], []), ([], []), ([10, 11], [10, 11]), ([12], [12]), ([13], [13]), ([9, 14], [9, 14]), ([7, 15], [7, 15]), ([16, 0, 1, 2, 3, 4, 5, 6, 7, 8, 9, 10, 11, 12, 13, 14, 15, 16], [16])])
def laws_FnPick.B17 : List Nat := [0, 1, 0, 0, 12, 28, 60, 127, 0, 256, 0, 0, 3072, 7168, 15360, 32512, 65535, 131071]
theorem laws_FnPick.tab17 : rtab .any (opsOf Try.f10 17) = laws_FnPick.T17 := by kernel_rfl
theorem laws_FnPick.bits17 : waitsOk laws_FnPick.T17.2 laws_FnPick.B17 = true := by kernel_rfl
def laws_FnPick.T18 : Bool × List (List Nat × List Nat) := (true, [([], []), ([0], [0]), ([], []), ([], []), ([2, 3], [2, 3]), ([4], [4]), ([5], [5]), ([1, 6], [1, 6]), ([], []), ([8], [8]), ([], []), ([], []), ([10, 11], [10, 11]), ([12], [12]), ([13], [13]), ([9, 14], [9, 14]), ([7, 15], [7, 15]), ([16, 0, 1, 2, 3, 4, 5, 6, 7, 8, 9, 10, 11, 12, 13, 14, 15, 16], [16])])
def laws_FnPick.B18 : List Nat := [0, 1, 0, 0, 12, 28, 60, 127, 0, 256, 0, 0, 3072, 7168, 15360, 32512, 65535, 131071]
theorem laws_FnPick.tab18 : rtab .any (opsOf Try.f10 18) = laws_FnPick.T18 := by kernel_rfl
theorem laws_FnPick.bits18 : waitsOk laws_FnPick.T18.2 laws_FnPick.B18 = true := by kernel_rfl
set_option maxHeartbeats 8000000 in
set_option maxRecDepth 100000 in
theorem laws_FnPick.calls (k : Nat) (A0 : Option Addr) (c0 : Nat) (l0 : List Int) (r : Bool) (w : World) (hr0 : Kd.C (Kd.int .u8) w A0 l0.length l0) (hc0 : l0.length ≤ c0) (h : laws_FnPick.f k l0 = some r) (hT0 : r = true) :
    Calls Try.prog 10 #[.slice A0 l0.length c0] w fun e w' => e = .returned (.bool r) ∧ Below w.heap.size w w' := by
  have hu32 := Try.underlying32
  have hT := Aside0.mk hT0
  clear hT0
  have HR0 := Aside0.mk hr0
  have HC0 := Aside0.mk hc0
  clear hr0 hc0
  have HB := Aside0.mk (Below.refl w.heap.size w)
  have H : (if (l0.length : Int) > 1048576 then (some true) else ((spec_DrawPolyInside.f k l0).bind fun t787 => ((impl_PolyInside.f t787).bind fun t790 => ((spec_PolyInside.f k t787).bind fun t791 => (if t790 = t791 then (laws_FnPick.j0 k t787 t790 t791 (decide (t790 < 0))) else (laws_FnPick.j0 k t787 t790 t791 true)))))) = some r := h
  clear h
  by_cases c2 : (l0.length : Int) > 1048576
  · rw [if_pos c2] at H
    have c2b0 : decide (1048576 < (l0.length : Int)) = true := decide_eq_true c2
    have c2b1 : decide (1048576 < l0.length) = true := decide_eq_true (by omega)
    clear c2
    obtain rfl := Option.some.inj H
    go_enter Try.func10, Try.ntmps10
    go_wp2
    go_ret
    exact ⟨qq12, qq1⟩
  · rw [if_neg c2] at H
    have c2b0 : decide (1048576 < (l0.length : Int)) = false := decide_eq_false c2
    have c2b1 : decide (1048576 < l0.length) = false := decide_eq_false (by omega)
    clear c2
    replace H := Option.bind_eq_some_iff.mp H
    obtain ⟨t787, A30, H⟩ := H
    replace H : ((impl_PolyInside.f t787).bind fun t790 => ((spec_PolyInside.f k t787).bind fun t791 => (if t790 = t791 then (laws_FnPick.j0 k t787 t790 t791 (decide (t790 < 0))) else (laws_FnPick.j0 k t787 t790 t791 true)))) = some r := H
    have A3 := Aside0.mk A30
    clear A30
    replace H := Option.bind_eq_some_iff.mp H
    obtain ⟨t790, A40, H⟩ := H
    replace H : ((spec_PolyInside.f k t787).bind fun t791 => (if t790 = t791 then (laws_FnPick.j0 k t787 t790 t791 (decide (t790 < 0))) else (laws_FnPick.j0 k t787 t790 t791 true))) = some r := H
    have A4 := Aside0.mk A40
    clear A40
    replace H := Option.bind_eq_some_iff.mp H
    obtain ⟨t791, A50, H⟩ := H
    replace H : (if t790 = t791 then (laws_FnPick.j0 k t787 t790 t791 (decide (t790 < 0))) else (laws_FnPick.j0 k t787 t790 t791 true)) = some r := H
    have A5 := Aside0.mk A50
    clear A50
    have HC6 := Aside0.mk H
    clear H
    go_enter Try.func10, Try.ntmps10
    go_upto_region 6 with (first | ((with_reducible refine gate_callee (f := 37) rfl ?_); refine goesL_ (some 22) rfl rfl Try.func37 (by kernel_rfl) rfl #[.slice A0 l0.length c0] rfl qq2 ?_; (with_reducible refine (spec_DrawPolyInside.calls k _ _ l0 t787 _ ?side1 ?side2 A3.out).mono ?_); (case side1 => exact qq29); (case side2 => exact HC0.out); rintro e w7 ⟨v788, rfl, ho0, hb⟩; refine ⟨_, rfl, ?_⟩; have n0_ := Aside0.mk (Kd.Q_lower ho0 (below_size qq1)); have n1_ := Aside0.mk (below_step qq1 hb); clear HB; have HO789 := n0_; have HB := n1_; clear n0_ n1_; (try clear hb); (try clear hb2); (try clear hk); (try clear hi); (try clear ho0); obtain ⟨Ao8, co8, eo8, _⟩ := Kd.Q_slice HO789.out; subst eo8) | ((with_reducible refine gate_callee (f := 38) rfl ?_); refine goesL_ (some 24) rfl rfl Try.func38 (by kernel_rfl) rfl #[.slice Ao8 t787.length co8] rfl qq2 ?_; (with_reducible refine (impl_PolyInside.calls _ _ t787 t790 _ ?side1 ?side2 A4.out).mono ?_); (case side1 => exact qq37 HO789.out); (case side2 => exact (Kd.Q_reads' HO789.out).2.1); rintro e w9 ⟨rfl, hb⟩; refine ⟨_, rfl, ?_⟩; have n0_ := Aside0.mk (Kd.Q_below (qq24 HO789.out) hb); have n1_ := Aside0.mk (below_step qq1 hb); clear HO789; clear HB; have HO789 := n0_; have HB := n1_; clear n0_ n1_; (try clear hb); (try clear hb2); (try clear hk); (try clear hi)) | ((with_reducible refine gate_callee (f := 39) rfl ?_); refine goesL_ (some 26) rfl rfl Try.func39 (by kernel_rfl) rfl #[.slice Ao8 t787.length co8] rfl qq2 ?_; (with_reducible refine (spec_PolyInside.calls k _ _ t787 t791 _ ?side1 ?side2 A5.out).mono ?_); (case side1 => exact qq37 HO789.out); (case side2 => exact (Kd.Q_reads' HO789.out).2.1); rintro e w10 ⟨rfl, hb⟩; refine ⟨_, rfl, ?_⟩; have n0_ := Aside0.mk (Kd.Q_below (qq24 HO789.out) hb); have n1_ := Aside0.mk (below_step qq1 hb); clear HO789; clear HB; have HO789 := n0_; have HB := n1_; clear n0_ n1_; (try clear hb); (try clear hb2); (try clear hk); (try clear hi)))
    (try simp only [Act.put, List.setIfInBounds_toArray, List.set_cons_zero, List.set_cons_succ])
    go_cut [33] (fun v33 wc => ∃ (kq : Nat) (x33_5 : Bool), v33 = .bool x33_5 ∧ Aside0 (laws_FnPick.j0 kq t787 t790 t791 x33_5 = some r) ∧ Aside0 (kq ≤ k) ∧ Aside0 (Kd.Q k32 32 wc w.heap.size (fun _ => True) (.slice Ao8 t787.length co8) t787) ∧ Aside0 (Below w.heap.size w wc))
    case first =>
      have H := HC6.out
      clear HC6
      by_cases c11 : t790 = t791
      · rw [if_pos c11] at H
        have c11b0 : (t790 == t791) = true := beq_iff_eq.mpr c11
        have c11b1 : (t790 != t791) = false := bne_eq_false_iff_eq.mpr c11
        clear c11
        (first | rw [c11b0] | (simp only [i64_w, i32_w]; rw [c11b0]) | skip)
        have H' := Aside0.mk H
        clear H
        go_wp2
        go_meet
        case rel => exact ⟨_, (decide (t790 < 0)), qq13, H', ⟨qq43⟩, ⟨qq24 HO789.out⟩, ⟨qq1⟩⟩
      · rw [if_neg c11] at H
        have c11b0 : (t790 == t791) = false := beq_eq_false_iff_ne.mpr c11
        have c11b1 : (t790 != t791) = true := bne_iff_ne.mpr c11
        (first | rw [c11b0] | (simp only [i64_w, i32_w]; rw [c11b0]) | skip)
        have H' := Aside0.mk H
        clear H
        go_wp2
        go_meet
        case rel => exact ⟨_, (true), qq13, H', ⟨qq43⟩, ⟨qq24 HO789.out⟩, ⟨qq1⟩⟩
    case rest =>
      clear HC6
      try clear c1
      try clear c2
      try clear c2b0
      try clear c2b1
      try clear p2
      try clear c3
      try clear c10
      try clear c11
      try clear c11b0
      try clear c11b1
      obtain ⟨kq, x33_5, rfl, HA, HJ5, HO_3, HB⟩ := hcut
      cases kq with
      | zero => exact absurd HA.out (by simp [laws_FnPick.j0])
      | succ kj5 =>
        have H := HA.out
        clear HA
        simp only [laws_FnPick.j0] at H
        by_cases c12 : x33_5 = true
        · subst c12
          have H1 : (some (t790 == t791)) = some r := by rw [if_pos rfl] at H; exact H
          clear H
          have H := H1
          clear H1
          obtain rfl := Option.some.inj H
          go_wp2
          go_ret
          exact ⟨qq12, qq1⟩
        · replace c12 := Bool.eq_false_iff.mpr c12
          subst c12
          have H1 : ((impl_PolyArea.f t787).bind fun bt792 => ((impl_PolyEdge.f t787).bind fun t794 => (if (mx bt792.1 (wrap64 (-bt792.1))) = (wrap64 ((wrap64 ((wrap64 (2 * t790)) + t794)) - 2)) then (if 0 < (t787.length : Int) then (laws_FnPick.l0 kj5 t787 t790 bt792.2 t794 0 ((rd_T32 t787 0).f0) ((rd_T32 t787 0).f1) ((rd_T32 t787 0).f0) ((rd_T32 t787 0).f1)) else (none)) else (some false)))) = some r := by rw [if_neg (show ¬ (false = true) by decide)] at H; exact H
          clear H
          have H := H1
          clear H1
          replace H := Option.bind_eq_some_iff.mp H
          obtain ⟨⟨t792, t793⟩, A130, H⟩ := H
          replace H : ((impl_PolyEdge.f t787).bind fun t794 => (if (mx t792 (wrap64 (-t792))) = (wrap64 ((wrap64 ((wrap64 (2 * t790)) + t794)) - 2)) then (if 0 < (t787.length : Int) then (laws_FnPick.l0 kj5 t787 t790 t793 t794 0 ((rd_T32 t787 0).f0) ((rd_T32 t787 0).f1) ((rd_T32 t787 0).f0) ((rd_T32 t787 0).f1)) else (none)) else (some false))) = some r := H
          have A13 := Aside0.mk A130
          clear A130
          replace H := Option.bind_eq_some_iff.mp H
          obtain ⟨t794, A140, H⟩ := H
          replace H : (if (mx t792 (wrap64 (-t792))) = (wrap64 ((wrap64 ((wrap64 (2 * t790)) + t794)) - 2)) then (if 0 < (t787.length : Int) then (laws_FnPick.l0 kj5 t787 t790 t793 t794 0 ((rd_T32 t787 0).f0) ((rd_T32 t787 0).f1) ((rd_T32 t787 0).f0) ((rd_T32 t787 0).f1)) else (none)) else (some false)) = some r := H
          have A14 := Aside0.mk A140
          clear A140
          obtain ⟨ji15, hji15⟩ : ∃ j_ : Int, (mx t792 (wrap64 (-t792))) = j_ := ⟨_, rfl⟩
          replace H : (if (ji15) = (wrap64 ((wrap64 ((wrap64 (2 * t790)) + t794)) - 2)) then (if 0 < (t787.length : Int) then (laws_FnPick.l0 kj5 t787 t790 t793 t794 0 ((rd_T32 t787 0).f0) ((rd_T32 t787 0).f1) ((rd_T32 t787 0).f0) ((rd_T32 t787 0).f1)) else (none)) else (some false)) = some r := by first | (rw [hji15] at H; exact H) | (simp only [hji15] at H ⊢; exact H)
          (try rw [hji15] at A13)
          (try rw [hji15] at A14)
          have hji15_ : (if t792 < (wrap64 (-t792)) then (wrap64 (-t792)) else t792) = ji15 := hji15
          by_cases c16 : (ji15) = (wrap64 ((wrap64 ((wrap64 (2 * t790)) + t794)) - 2))
          · rw [if_pos c16] at H
            have c16b0 : ((ji15) == (wrap64 ((wrap64 ((wrap64 (2 * t790)) + t794)) - 2))) = true := beq_iff_eq.mpr c16
            have c16b1 : ((ji15) != (wrap64 ((wrap64 ((wrap64 (2 * t790)) + t794)) - 2))) = false := bne_eq_false_iff_eq.mpr c16
            clear c16
            by_cases c17 : 0 < (t787.length : Int)
            · rw [if_pos c17] at H
              have c17b0 : decide (0 < (t787.length : Int)) = true := decide_eq_true c17
              have c17b1 : decide (0 < t787.length) = true := decide_eq_true (by omega)
              clear c17
              have H' := Aside0.mk H
              clear H
              go_wp2_with (first | ((with_reducible refine gate_callee (f := 12) rfl ?_); refine goesL_ (some 39) rfl rfl Try.func12 (by kernel_rfl) rfl #[.slice Ao8 t787.length co8] rfl qq2 ?_; (with_reducible refine (impl_PolyArea.calls _ _ t787 t792 t793 _ ?side1 ?side2 A13.out).mono ?_); (case side1 => exact qq37 HO_3.out); (case side2 => exact (Kd.Q_reads' HO_3.out).2.1); rintro e w18 ⟨rfl, hb⟩; refine ⟨_, rfl, ?_⟩; have n0_ := Aside0.mk (Kd.Q_below (qq24 HO_3.out) hb); have n1_ := Aside0.mk (below_step qq1 hb); clear HO_3; clear HB; have HO_3 := n0_; have HB := n1_; clear n0_ n1_; (try clear hb); (try clear hb2); (try clear hk); (try clear hi)) | ((with_reducible refine gate_callee (f := 40) rfl ?_); refine goesL_ (some 43) rfl rfl Try.func40 (by kernel_rfl) rfl #[.slice Ao8 t787.length co8] rfl qq2 ?_; (with_reducible refine (impl_PolyEdge.calls _ _ t787 t794 _ ?side1 ?side2 A14.out).mono ?_); (case side1 => exact qq37 HO_3.out); (case side2 => exact (Kd.Q_reads' HO_3.out).2.1); rintro e w19 ⟨rfl, hb⟩; refine ⟨_, rfl, ?_⟩; have n0_ := Aside0.mk (Kd.Q_below (qq24 HO_3.out) hb); have n1_ := Aside0.mk (below_step qq1 hb); clear HO_3; clear HB; have HO_3 := n0_; have HB := n1_; clear n0_ n1_; (try clear hb); (try clear hb2); (try clear hk); (try clear hi); have p795 : 0 ≤ (0 : Int) := (by omega); have q795 : 0 < (t787.length : Int) := of_decide_eq_true qq18; obtain ⟨ad795, e795, hx795_0, hx795_1⟩ := at_T32 (Kd.Q_reads' HO_3.out).2.2 0 p795 q795; cases e795; have qi795 : (0 < t787.length) = True := eq_true (by omega); (try rw [show ((0 : Int)).toNat = 0 from rfl] at hx795_0); (try rw [show 0 * 2 = 0 from rfl] at hx795_0); (try rw [Addr.add_zero'] at hx795_0); (try rw [show ((0 : Int)).toNat = 0 from rfl] at hx795_1); (try rw [show 0 * 2 = 0 from rfl] at hx795_1); (try rw [Addr.add_zero'] at hx795_1); replace p795 := eq_true p795; replace q795 := eq_true q795) | ((with_reducible refine gate_dst (N := 9) rfl ?_); refine box_event ?hg (N := 9) ?hd (cs := #[.int .i64 0, .int .i64 0]) (t := 32) ?hr ?_; (case hd => rfl); (case hg => rfl); (case hr => exact qq16); intro gb796 hg w20 hbox hb; have n0_ := Aside0.mk (Kd.Q_below (Kd.Q_elderB (qq24 HO_3.out) gb796 (Nat.le_of_eq hg.symm)) hb); have n1_ := Aside0.mk (below_step qq1 hb); have n2_ := Aside0.mk (hbox); have n3_ := Aside0.mk ((qq30 : w.heap.size ≤ gb796)); have n4_ := Aside0.mk ((qq30 : w.heap.size ≤ gb796)); clear HO_3; clear HB; have HO_3 := n0_; have HB := n1_; have BK796 := n2_; have GW796 := n3_; have GE796 := n4_; clear n0_ n1_ n2_ n3_ n4_; clear hb hbox hg; have hcz21_0 : w20.cell? ⟨gb796, 0, none⟩ = some (.int .i64 0) := (blk_cell BK796.out 0).trans rfl; have hcz21_1 : w20.cell? ⟨gb796, 1, none⟩ = some (.int .i64 0) := (blk_cell BK796.out 1).trans rfl; have hfz21_0 := blk_frozen BK796.out 0; have hfz21_1 := blk_frozen BK796.out 1; have p797 : 0 ≤ (0 : Int) := (by omega); have q797 : 0 < (t787.length : Int) := of_decide_eq_true qq18; obtain ⟨ad797, e797, hx797_0, hx797_1⟩ := at_T32 (Kd.Q_reads' HO_3.out).2.2 0 p797 q797; obtain rfl : ad795 = ad797 := (by injection e797); have qi797 : (0 < t787.length) = True := eq_true (by omega); (try rw [show ((0 : Int)).toNat = 0 from rfl] at hx797_0); (try rw [show 0 * 2 = 0 from rfl] at hx797_0); (try rw [Addr.add_zero'] at hx797_0); (try rw [show ((0 : Int)).toNat = 0 from rfl] at hx797_1); (try rw [show 0 * 2 = 0 from rfl] at hx797_1); (try rw [Addr.add_zero'] at hx797_1); have hn797_0 : ad795.block ≠ gb796 := Kd.own_blk (qq73); have hn797_1 : ad795.block ≠ gb796 := Kd.own_blk (qq73); replace hx797_0 := (cell_far (p := ⟨gb796, 0, none⟩) qq70 (.int .i64 ((rd_T32 t787 0).f0))).trans hx797_0; replace hx797_1 := (cell_far (p := ⟨gb796, 0, none⟩) qq70 (.int .i64 ((rd_T32 t787 0).f0))).trans hx797_1; replace hx797_0 := (cell_far (p := ⟨gb796, 1, none⟩) qq71 (.int .i64 ((rd_T32 t787 0).f1))).trans hx797_0; replace hx797_1 := (cell_far (p := ⟨gb796, 1, none⟩) qq71 (.int .i64 ((rd_T32 t787 0).f1))).trans hx797_1; clear hn797_0; clear hn797_1; replace p797 := eq_true p797; replace q797 := eq_true q797) | ((with_reducible refine gate_dst (N := 10) rfl ?_); refine box_event ?hg (N := 10) ?hd (cs := #[.int .i64 0, .int .i64 0]) (t := 32) ?hr ?_; (case hd => rfl); (case hg => rfl); (case hr => exact qq16); intro gb798 hg w22 hbox hb; have n0_ := Aside0.mk (Kd.Q_below (Kd.Q_elderB (by (with_reducible repeat (first | apply Kd.Q_alloc | apply Kd.Q_drewN | apply Kd.Q_drew)); exact (Kd.Q_mono (Kd.Q_far (p := ⟨gb796, 1, none⟩) (Kd.Q_far (p := ⟨gb796, 0, none⟩) (Kd.Q_mono HO_3.out (fun k_ hk => (⟨hk, hk.2⟩ : _ ∧ k_ ≠ gb796))) (fun _ hk => hk.2) (.int .i64 ((rd_T32 t787 0).f0))) (fun _ hk => hk.2) (.int .i64 ((rd_T32 t787 0).f1))) (fun _ h_ => h_.1))) gb798 (Nat.le_of_eq hg.symm)) hb); have n1_ := Aside0.mk (blk_below (g := gb796) (o := .cells #[.int .i64 ((rd_T32 t787 0).f0), .int .i64 ((rd_T32 t787 0).f1)] 32 (0, 0)) (qq27 BK796.out) hb); have n2_ := Aside0.mk (below_step (qq6 HB.out GE796.out) hb); have n3_ := Aside0.mk (hbox); have n4_ := Aside0.mk ((qq31 HB.out GE796.out : w.heap.size ≤ gb798)); have n5_ := Aside0.mk ((qq31 HB.out GE796.out : w.heap.size ≤ gb798)); have n6_ := Aside0.mk ((by rw [hg]; exact Nat.ne_of_lt (blk_lt (g := gb796) (o := .cells #[.int .i64 ((rd_T32 t787 0).f0), .int .i64 ((rd_T32 t787 0).f1)] 32 (0, 0)) (qq27 BK796.out)) : gb796 ≠ gb798)); have n7_ := Aside0.mk ((by rw [hg]; exact Nat.ne_of_gt (blk_lt (g := gb796) (o := .cells #[.int .i64 ((rd_T32 t787 0).f0), .int .i64 ((rd_T32 t787 0).f1)] 32 (0, 0)) (qq27 BK796.out)) : gb798 ≠ gb796)); clear HO_3; clear BK796; clear HB; have HO_3 := n0_; have BK796 := n1_; have HB := n2_; have BK798 := n3_; have GW798 := n4_; have GE798 := n5_; have NB796_798 := n6_; have NB798_796 := n7_; clear n0_ n1_ n2_ n3_ n4_ n5_ n6_ n7_; clear hb hbox hg; have hnb23 := NB798_796.out; have hnc23 := NB796_798.out; have hcz24_0 : w22.cell? ⟨gb798, 0, none⟩ = some (.int .i64 0) := (blk_cell BK798.out 0).trans rfl; have hcz24_1 : w22.cell? ⟨gb798, 1, none⟩ = some (.int .i64 0) := (blk_cell BK798.out 1).trans rfl; have hfz24_0 := blk_frozen BK798.out 0; have hfz24_1 := blk_frozen BK798.out 1))
              go_loopg [11] kj5 (fun kq v11 w' => ∃ (x11_2 : Int) (x797000_2 : Int) (x797001_2 : Int) (x799000_2 : Int) (x799001_2 : Int), v11 = .int .i64 x11_2 ∧ Aside0 (laws_FnPick.l0 kq t787 t790 t793 t794 x11_2 x797000_2 x797001_2 x799000_2 x799001_2 = some r) ∧ Aside0 (kq ≤ kj5) ∧ Aside0 (Kd.Q k32 32 w' w.heap.size (fun k_ => k_ ≠ gb796 ∧ k_ ≠ gb798) (.slice (some ad795) t787.length co8) t787) ∧ Aside0 (w'.heap[gb796]? = some (.cells #[.int .i64 x797000_2, .int .i64 x797001_2] 32 (0, 0))) ∧ Aside0 (w'.heap[gb798]? = some (.cells #[.int .i64 x799000_2, .int .i64 x799001_2] 32 (0, 0))) ∧ Aside0 (Below w.heap.size w w'))
              case atStart => exact ⟨(0), ((rd_T32 t787 0).f0), ((rd_T32 t787 0).f1), ((rd_T32 t787 0).f0), ((rd_T32 t787 0).f1), qq13, H', ⟨Nat.le_refl _⟩, ⟨by (with_reducible repeat (first | apply Kd.Q_alloc | apply Kd.Q_drewN | apply Kd.Q_drew)); exact Kd.Q_mono (Kd.Q_far (p := ⟨gb798, 1, none⟩) (Kd.Q_far (p := ⟨gb798, 0, none⟩) (Kd.Q_mono HO_3.out (fun k_ hk => (⟨hk, hk.2⟩ : _ ∧ k_ ≠ gb798))) (fun _ hk => hk.2) (.int .i64 ((rd_T32 t787 0).f0))) (fun _ hk => hk.2) (.int .i64 ((rd_T32 t787 0).f1))) (fun _ hk => ⟨hk.1.1.2, hk.1.2⟩)⟩, ⟨qq10 NB796_798.out BK796.out⟩, ⟨qq27 BK798.out⟩, ⟨qq5 HB.out GE796.out GE798.out⟩⟩
              case round =>
                clear H'
                try clear c1
                try clear c2
                try clear c2b0
                try clear c2b1
                try clear p2
                try clear c3
                try clear c4
                try clear p6
                try clear p7
                try clear q7
                try clear hx7
                try clear qi7
                try clear c10
                try clear c11
                try clear c11b0
                try clear c11b1
                try clear c12
                try clear c16
                try clear c16b0
                try clear c16b1
                try clear c17
                try clear c17b0
                try clear c17b1
                try clear c23
                try clear hcz21_0
                try clear hcz21_1
                try clear hcz24_0
                try clear hcz24_1
                try clear hfz21_0
                try clear hfz21_1
                try clear hfz24_0
                try clear hfz24_1
                try clear hx795_0
                try clear hx795_1
                try clear hx797_0
                try clear hx797_1
                try clear p2
                try clear p795
                try clear p797
                try clear q795
                try clear q797
                obtain ⟨x11_2, x797000_2, x797001_2, x799000_2, x799001_2, rfl, HA, HK2, HO_3, BK796, BK798, HB⟩ := hrel
                cases gk with
                | zero => exact absurd HA.out (by simp [laws_FnPick.l0])
                | succ k2 =>
                  have H := HA.out
                  clear HA
                  simp only [laws_FnPick.l0] at H
                  by_cases c25 : x11_2 < (t787.length : Int)
                  · rw [if_pos c25] at H
                    have c25b0 : decide (x11_2 < (t787.length : Int)) = true := decide_eq_true c25
                    clear c25
                    by_cases c26 : 0 ≤ x11_2
                    · rw [if_pos c26] at H
                      have c26b0 : decide (0 ≤ x11_2) = true := decide_eq_true c26
                      clear c26
                      obtain ⟨ji27, hji27⟩ : ∃ j_ : Int, (mn x797000_2 ((rd_T32 t787 x11_2).f0)) = j_ := ⟨_, rfl⟩
                      replace H : (laws_FnPick.l0 k2 t787 t790 t793 t794 (wrap64 (x11_2 + 1)) ji27 (mn x797001_2 ((rd_T32 t787 x11_2).f1)) (mx x799000_2 ((rd_T32 t787 x11_2).f0)) (mx x799001_2 ((rd_T32 t787 x11_2).f1))) = some r := by first | (rw [hji27] at H; exact H) | (simp only [hji27] at H ⊢; exact H)
                      have hji27_ : (if ((rd_T32 t787 x11_2).f0) < x797000_2 then ((rd_T32 t787 x11_2).f0) else x797000_2) = ji27 := hji27
                      obtain ⟨ji28, hji28⟩ : ∃ j_ : Int, (mn x797001_2 ((rd_T32 t787 x11_2).f1)) = j_ := ⟨_, rfl⟩
                      replace H : (laws_FnPick.l0 k2 t787 t790 t793 t794 (wrap64 (x11_2 + 1)) ji27 ji28 (mx x799000_2 ((rd_T32 t787 x11_2).f0)) (mx x799001_2 ((rd_T32 t787 x11_2).f1))) = some r := by first | (rw [hji28] at H; exact H) | (simp only [hji28] at H ⊢; exact H)
                      have hji28_ : (if ((rd_T32 t787 x11_2).f1) < x797001_2 then ((rd_T32 t787 x11_2).f1) else x797001_2) = ji28 := hji28
                      obtain ⟨ji29, hji29⟩ : ∃ j_ : Int, (mx x799000_2 ((rd_T32 t787 x11_2).f0)) = j_ := ⟨_, rfl⟩
                      replace H : (laws_FnPick.l0 k2 t787 t790 t793 t794 (wrap64 (x11_2 + 1)) ji27 ji28 ji29 (mx x799001_2 ((rd_T32 t787 x11_2).f1))) = some r := by first | (rw [hji29] at H; exact H) | (simp only [hji29] at H ⊢; exact H)
                      have hji29_ : (if x799000_2 < ((rd_T32 t787 x11_2).f0) then ((rd_T32 t787 x11_2).f0) else x799000_2) = ji29 := hji29
                      obtain ⟨ji30, hji30⟩ : ∃ j_ : Int, (mx x799001_2 ((rd_T32 t787 x11_2).f1)) = j_ := ⟨_, rfl⟩
                      replace H : (laws_FnPick.l0 k2 t787 t790 t793 t794 (wrap64 (x11_2 + 1)) ji27 ji28 ji29 ji30) = some r := by first | (rw [hji30] at H; exact H) | (simp only [hji30] at H ⊢; exact H)
                      have hji30_ : (if x799001_2 < ((rd_T32 t787 x11_2).f1) then ((rd_T32 t787 x11_2).f1) else x799001_2) = ji30 := hji30
                      have H' := Aside0.mk H
                      clear H
                      try go_wp2
                      have n0_ := Aside0.mk (Kd.Q_drew HO_3.out)
                      have n1_ := Aside0.mk (blk_drew BK796.out)
                      have n2_ := Aside0.mk (blk_drew BK798.out)
                      have n3_ := Aside0.mk (below_drew1 HB.out)
                      clear HO_3
                      clear BK796
                      clear BK798
                      clear HB
                      have HO_3 := n0_
                      have BK796 := n1_
                      have BK798 := n2_
                      have HB := n3_
                      clear n0_ n1_ n2_ n3_
                      have p799 : 0 ≤ (x11_2 : Int) := of_decide_eq_true qq18
                      have q799 : x11_2 < (t787.length : Int) := of_decide_eq_true qq18
                      obtain ⟨ad799, e799, hx799_0, hx799_1⟩ := at_T32 (Kd.Q_reads' HO_3.out).2.2 x11_2 p799 q799
                      obtain rfl : ad795 = ad799 := (by injection e799)
                      replace p799 := eq_true p799
                      replace q799 := eq_true q799
                      have p800 : 0 ≤ (x11_2 : Int) := of_decide_eq_true qq18
                      have q800 : x11_2 < (t787.length : Int) := of_decide_eq_true qq18
                      obtain ⟨ad800, e800, hx800_0, hx800_1⟩ := at_T32 (Kd.Q_reads' HO_3.out).2.2 x11_2 p800 q800
                      obtain rfl : ad795 = ad800 := (by injection e800)
                      replace p800 := eq_true p800
                      replace q800 := eq_true q800
                      refine start_ (n := 18) (S := fun w' => w'.cell? ⟨gb796, 0, none⟩ = some (.int .i64 x797000_2) ∧ w'.cell? ⟨gb796, 1, none⟩ = some (.int .i64 x797001_2) ∧ w'.cell? (ad795.add ((x11_2).toNat * 2)) = some (.int .i64 ((rd_T32 t787 x11_2).f0)) ∧ w'.cell? ⟨(ad795.add ((x11_2).toNat * 2)).block, (ad795.add ((x11_2).toNat * 2)).off + 1, none⟩ = some (.int .i64 ((rd_T32 t787 x11_2).f1)) ∧ w'.cell? (ad795.add ((x11_2).toNat * 2)) = some (.int .i64 ((rd_T32 t787 x11_2).f0)) ∧ w'.cell? ⟨(ad795.add ((x11_2).toNat * 2)).block, (ad795.add ((x11_2).toNat * 2)).off + 1, none⟩ = some (.int .i64 ((rd_T32 t787 x11_2).f1))) (ds := [17]) #[false, false, false, false, false, false, false, false, false, false, false, false, false, false, false, false, false, false] (by kernel_rfl) rfl rfl ⟨(blk_cell BK796.out 0).trans rfl, (blk_cell BK796.out 1).trans rfl, hx799_0, hx799_1, hx800_0, hx800_1⟩ (fun hHeld => ?_); refine with_tabW laws_FnPick.tab17 laws_FnPick.bits17 (fun HT_ HW_ => ?_)
                      generalize wr.drew = w31 at HO_3 BK796 BK798 HB hx799_0 hx799_1 hx800_0 hx800_1 hHeld ⊢
                      refine pure_ (i := 0) (N := some 66) #[true, false, false, false, false, false, false, false, false, false, false, false, false, false, false, false, false, false] rfl rfl (any_of HT_.out (by kernel_rfl)) (fun _ _ _ h => h) (Or.inl ⟨by rfl, pA_⟩) pB_ ?_
                      refine pure_ (i := 2) (N := some 68) #[true, false, true, false, false, false, false, false, false, false, false, false, false, false, false, false, false, false] rfl rfl (any_of HT_.out (by kernel_rfl)) (fun _ _ _ h => h) (Or.inl ⟨by rfl, pA_⟩) pB_ ?_
                      refine pure_ (i := 3) (N := some 69) #[true, false, true, true, false, false, false, false, false, false, false, false, false, false, false, false, false, false] rfl rfl (any_of HT_.out (by kernel_rfl)) (fun _ _ _ h => h) (Or.inl ⟨by rfl, pA_⟩) pB_ ?_
                      refine pure_ (i := 4) (N := some 70) #[true, false, true, true, true, false, false, false, false, false, false, false, false, false, false, false, false, false] rfl rfl (any_of HT_.out (by kernel_rfl)) (fun _ _ _ h => h) (Or.inl ⟨by rfl, pA_⟩) pB_ ?_
                      refine pure_ (i := 5) (N := some 71) #[true, false, true, true, true, true, false, false, false, false, false, false, false, false, false, false, false, false] rfl rfl (any_of HT_.out (by kernel_rfl)) (fun _ _ _ h => h) (Or.inl ⟨by rfl, pA_⟩) pB_ ?_
                      refine pure_ (i := 8) (N := some 74) #[true, false, true, true, true, true, false, false, true, false, false, false, false, false, false, false, false, false] rfl rfl (any_of HT_.out (by kernel_rfl)) (fun _ _ _ h => h) (Or.inl ⟨by rfl, pA_⟩) pB_ ?_
                      refine pure_ (i := 10) (N := some 76) #[true, false, true, true, true, true, false, false, true, false, true, false, false, false, false, false, false, false] rfl rfl (any_of HT_.out (by kernel_rfl)) (fun _ _ _ h => h) (Or.inl ⟨by rfl, pA_⟩) pB_ ?_
                      refine pure_ (i := 11) (N := some 77) #[true, false, true, true, true, true, false, false, true, false, true, true, false, false, false, false, false, false] rfl rfl (any_of HT_.out (by kernel_rfl)) (fun _ _ _ h => h) (Or.inl ⟨by rfl, pA_⟩) pB_ ?_
                      refine pure_ (i := 12) (N := some 78) #[true, false, true, true, true, true, false, false, true, false, true, true, true, false, false, false, false, false] rfl rfl (any_of HT_.out (by kernel_rfl)) (fun _ _ _ h => h) (Or.inl ⟨by rfl, pA_⟩) pB_ ?_
                      refine pure_ (i := 13) (N := some 79) #[true, false, true, true, true, true, false, false, true, false, true, true, true, true, false, false, false, false] rfl rfl (any_of HT_.out (by kernel_rfl)) (fun _ _ _ h => h) (Or.inl ⟨by rfl, pA_⟩) pB_ ?_
                      refine take_ (i := 1) (N := some 67) (v := ?_) (a' := ?_) #[true, true, true, true, true, true, false, false, true, false, true, true, true, true, false, false, false, false] rfl rfl (take_ofW HT_.out HW_.out (by kernel_rfl)) (fun _ _ _ h => h) (Or.inl ⟨by rfl, ?_⟩) hHeld ?_ ?_
                      rotate_left
                      · rintro w' ⟨s0, s1, s2, s3, s4, s5⟩
                        go_simp
                        with_reducible rfl
                      rotate_left
                      · simp only [Act.put, List.setIfInBounds_toArray, List.set_cons_zero, List.set_cons_succ, i64_w, i32_w]
                        rfl
                      refine take_ (i := 6) (N := some 72) (v := ?_) (a' := ?_) #[true, true, true, true, true, true, true, false, true, false, true, true, true, true, false, false, false, false] rfl rfl (take_ofW HT_.out HW_.out (by kernel_rfl)) (fun _ _ _ h => h) (Or.inl ⟨by rfl, ?_⟩) hHeld ?_ ?_
                      rotate_left
                      · rintro w' ⟨s0, s1, s2, s3, s4, s5⟩
                        go_simp
                        with_reducible rfl
                      rotate_left
                      · simp only [Act.put, List.setIfInBounds_toArray, List.set_cons_zero, List.set_cons_succ, i64_w, i32_w]
                        rfl
                      refine pure_ (i := 7) (N := some 73) #[true, true, true, true, true, true, true, true, true, false, true, true, true, true, false, false, false, false] rfl rfl (any_of HT_.out (by kernel_rfl)) (fun _ _ _ h => h) (Or.inl ⟨by rfl, pA_⟩) pB_ ?_
                      refine take_ (i := 9) (N := some 75) (v := ?_) (a' := ?_) #[true, true, true, true, true, true, true, true, true, true, true, true, true, true, false, false, false, false] rfl rfl (take_ofW HT_.out HW_.out (by kernel_rfl)) (fun _ _ _ h => h) (Or.inl ⟨by rfl, ?_⟩) hHeld ?_ ?_
                      rotate_left
                      · rintro w' ⟨s0, s1, s2, s3, s4, s5⟩
                        go_simp
                        with_reducible rfl
                      rotate_left
                      · simp only [Act.put, List.setIfInBounds_toArray, List.set_cons_zero, List.set_cons_succ, i64_w, i32_w]
                        rfl
                      refine take_ (i := 14) (N := some 80) (v := ?_) (a' := ?_) #[true, true, true, true, true, true, true, true, true, true, true, true, true, true, true, false, false, false] rfl rfl (take_ofW HT_.out HW_.out (by kernel_rfl)) (fun _ _ _ h => h) (Or.inl ⟨by rfl, ?_⟩) hHeld ?_ ?_
                      rotate_left
                      · rintro w' ⟨s0, s1, s2, s3, s4, s5⟩
                        go_simp
                        with_reducible rfl
                      rotate_left
                      · simp only [Act.put, List.setIfInBounds_toArray, List.set_cons_zero, List.set_cons_succ, i64_w, i32_w]
                        rfl
                      refine pure_ (i := 15) (N := some 81) #[true, true, true, true, true, true, true, true, true, true, true, true, true, true, true, true, false, false] rfl rfl (any_of HT_.out (by kernel_rfl)) (fun _ _ _ h => h) (Or.inl ⟨by rfl, pA_⟩) pB_ ?_
                      refine pure_ (i := 16) (N := some 82) #[true, true, true, true, true, true, true, true, true, true, true, true, true, true, true, true, true, false] rfl rfl (any_of HT_.out (by kernel_rfl)) (fun _ _ _ h => h) (Or.inl ⟨by rfl, pA_⟩) pB_ ?_
                      refine last_ (i := 17) (N := none) #[true, true, true, true, true, true, true, true, true, true, true, true, true, true, true, true, true, true] rfl rfl (one_of HT_.out (by kernel_rfl)) (by decide) (fun K hK => ?_)
                      have hs32 : w31.cell? ⟨gb796, 0, none⟩ = some (.int .i64 x797000_2) := (blk_cell BK796.out 0).trans rfl
                      have hfs32 := blk_frozen BK796.out 0
                      have hns32_1 := NB798_796.out
                      have hms32_1 := NB796_798.out
                      have hs33 : w31.cell? ⟨gb796, 1, none⟩ = some (.int .i64 x797001_2) := (blk_cell BK796.out 1).trans rfl
                      have hfs33 := blk_frozen BK796.out 1
                      have hns33_1 := NB798_796.out
                      have hms33_1 := NB796_798.out
                      refine skip_ (w1 := ?_) (by rfl) rfl ?_ ?_
                      rotate_left
                      · go_simp
                        rfl
                      refine hK.out _ _ ?_
                      clear hK K
                      refine done_ (done_of HT_.out (by kernel_rfl)) ?_
                      try go_wp2
                      have n0_ : Aside0 (Kd.Q k32 32 ((w31.setCell ⟨gb796, 0, none⟩ (.int .i64 ji27)).setCell ⟨gb796, 1, none⟩ (.int .i64 ji28)) w.heap.size (fun k_ => k_ ≠ gb796 ∧ k_ ≠ gb798) (.slice (some ad795) t787.length co8) t787) := ⟨by (with_reducible repeat (first | apply Kd.Q_alloc | apply Kd.Q_drewN | apply Kd.Q_drew)); exact Kd.Q_mono (Kd.Q_far (p := ⟨gb796, 1, none⟩) (Kd.Q_far (p := ⟨gb796, 0, none⟩) (Kd.Q_mono HO_3.out (fun k_ hk => (⟨hk, hk.1⟩ : _ ∧ k_ ≠ gb796))) (fun _ hk => hk.2) (.int .i64 ji27)) (fun _ hk => hk.2) (.int .i64 ji28)) (fun _ hk => ⟨hk.1.1, hk.1.2⟩)⟩
                      have n1_ : Aside0 (((w31.setCell ⟨gb796, 0, none⟩ (.int .i64 ji27)).setCell ⟨gb796, 1, none⟩ (.int .i64 ji28)).heap[gb796]? = some (.cells #[.int .i64 ji27, .int .i64 ji28] 32 (0, 0))) := ⟨by (with_reducible repeat (first | refine blk_drewN ?_ _ | refine blk_drew ?_ | refine blk_alloc ?_ _)); refine blk_put (cs := #[.int .i64 ji27, .int .i64 x797001_2]) ?_ 1 _ rfl; (with_reducible repeat (first | refine blk_drewN ?_ _ | refine blk_drew ?_ | refine blk_alloc ?_ _)); refine blk_put (cs := #[.int .i64 x797000_2, .int .i64 x797001_2]) ?_ 0 _ rfl; (with_reducible repeat (first | refine blk_drewN ?_ _ | refine blk_drew ?_ | refine blk_alloc ?_ _)); exact BK796.out⟩
                      have n2_ : Aside0 (((w31.setCell ⟨gb796, 0, none⟩ (.int .i64 ji27)).setCell ⟨gb796, 1, none⟩ (.int .i64 ji28)).heap[gb798]? = some (.cells #[.int .i64 x799000_2, .int .i64 x799001_2] 32 (0, 0))) := ⟨qq10 NB798_796.out BK798.out⟩
                      have n3_ : Aside0 (Below w.heap.size w ((w31.setCell ⟨gb796, 0, none⟩ (.int .i64 ji27)).setCell ⟨gb796, 1, none⟩ (.int .i64 ji28))) := ⟨qq5 HB.out GE796.out GE798.out⟩
                      (try clear HO_3)
                      (try clear BK796)
                      (try clear BK798)
                      (try clear HB)
                      generalize ((w31.setCell ⟨gb796, 0, none⟩ (.int .i64 ji27)).setCell ⟨gb796, 1, none⟩ (.int .i64 ji28)) = w34 at n0_ n1_ n2_ n3_ ⊢
                      have HO_3 := n0_
                      have BK796 := n1_
                      have BK798 := n2_
                      have HB := n3_
                      clear n0_ n1_ n2_ n3_
                      have n0_ := Aside0.mk (Kd.Q_drew HO_3.out)
                      have n1_ := Aside0.mk (blk_drew BK796.out)
                      have n2_ := Aside0.mk (blk_drew BK798.out)
                      have n3_ := Aside0.mk (below_drew1 HB.out)
                      clear HO_3
                      clear BK796
                      clear BK798
                      clear HB
                      have HO_3 := n0_
                      have BK796 := n1_
                      have BK798 := n2_
                      have HB := n3_
                      clear n0_ n1_ n2_ n3_
                      have p801 : 0 ≤ (x11_2 : Int) := of_decide_eq_true qq18
                      have q801 : x11_2 < (t787.length : Int) := of_decide_eq_true qq18
                      obtain ⟨ad801, e801, hx801_0, hx801_1⟩ := at_T32 (Kd.Q_reads' HO_3.out).2.2 x11_2 p801 q801
                      obtain rfl : ad795 = ad801 := (by injection e801)
                      replace p801 := eq_true p801
                      replace q801 := eq_true q801
                      have p802 : 0 ≤ (x11_2 : Int) := of_decide_eq_true qq18
                      have q802 : x11_2 < (t787.length : Int) := of_decide_eq_true qq18
                      obtain ⟨ad802, e802, hx802_0, hx802_1⟩ := at_T32 (Kd.Q_reads' HO_3.out).2.2 x11_2 p802 q802
                      obtain rfl : ad795 = ad802 := (by injection e802)
                      replace p802 := eq_true p802
                      replace q802 := eq_true q802
                      refine start_ (n := 18) (S := fun w' => w'.cell? ⟨gb798, 0, none⟩ = some (.int .i64 x799000_2) ∧ w'.cell? ⟨gb798, 1, none⟩ = some (.int .i64 x799001_2) ∧ w'.cell? (ad795.add ((x11_2).toNat * 2)) = some (.int .i64 ((rd_T32 t787 x11_2).f0)) ∧ w'.cell? ⟨(ad795.add ((x11_2).toNat * 2)).block, (ad795.add ((x11_2).toNat * 2)).off + 1, none⟩ = some (.int .i64 ((rd_T32 t787 x11_2).f1)) ∧ w'.cell? (ad795.add ((x11_2).toNat * 2)) = some (.int .i64 ((rd_T32 t787 x11_2).f0)) ∧ w'.cell? ⟨(ad795.add ((x11_2).toNat * 2)).block, (ad795.add ((x11_2).toNat * 2)).off + 1, none⟩ = some (.int .i64 ((rd_T32 t787 x11_2).f1))) (ds := [17]) #[false, false, false, false, false, false, false, false, false, false, false, false, false, false, false, false, false, false] (by kernel_rfl) rfl rfl ⟨(blk_cell BK798.out 0).trans rfl, (blk_cell BK798.out 1).trans rfl, hx801_0, hx801_1, hx802_0, hx802_1⟩ (fun hHeld => ?_); refine with_tabW laws_FnPick.tab18 laws_FnPick.bits18 (fun HT_ HW_ => ?_)
                      generalize w34.drew = w35 at HO_3 BK796 BK798 HB hx801_0 hx801_1 hx802_0 hx802_1 hHeld ⊢
                      refine pure_ (i := 0) (N := some 83) #[true, false, false, false, false, false, false, false, false, false, false, false, false, false, false, false, false, false] rfl rfl (any_of HT_.out (by kernel_rfl)) (fun _ _ _ h => h) (Or.inl ⟨by rfl, pA_⟩) pB_ ?_
                      refine pure_ (i := 2) (N := some 85) #[true, false, true, false, false, false, false, false, false, false, false, false, false, false, false, false, false, false] rfl rfl (any_of HT_.out (by kernel_rfl)) (fun _ _ _ h => h) (Or.inl ⟨by rfl, pA_⟩) pB_ ?_
                      refine pure_ (i := 3) (N := some 86) #[true, false, true, true, false, false, false, false, false, false, false, false, false, false, false, false, false, false] rfl rfl (any_of HT_.out (by kernel_rfl)) (fun _ _ _ h => h) (Or.inl ⟨by rfl, pA_⟩) pB_ ?_
                      refine pure_ (i := 4) (N := some 87) #[true, false, true, true, true, false, false, false, false, false, false, false, false, false, false, false, false, false] rfl rfl (any_of HT_.out (by kernel_rfl)) (fun _ _ _ h => h) (Or.inl ⟨by rfl, pA_⟩) pB_ ?_
                      refine pure_ (i := 5) (N := some 88) #[true, false, true, true, true, true, false, false, false, false, false, false, false, false, false, false, false, false] rfl rfl (any_of HT_.out (by kernel_rfl)) (fun _ _ _ h => h) (Or.inl ⟨by rfl, pA_⟩) pB_ ?_
                      refine pure_ (i := 8) (N := some 91) #[true, false, true, true, true, true, false, false, true, false, false, false, false, false, false, false, false, false] rfl rfl (any_of HT_.out (by kernel_rfl)) (fun _ _ _ h => h) (Or.inl ⟨by rfl, pA_⟩) pB_ ?_
                      refine pure_ (i := 10) (N := some 93) #[true, false, true, true, true, true, false, false, true, false, true, false, false, false, false, false, false, false] rfl rfl (any_of HT_.out (by kernel_rfl)) (fun _ _ _ h => h) (Or.inl ⟨by rfl, pA_⟩) pB_ ?_
                      refine pure_ (i := 11) (N := some 94) #[true, false, true, true, true, true, false, false, true, false, true, true, false, false, false, false, false, false] rfl rfl (any_of HT_.out (by kernel_rfl)) (fun _ _ _ h => h) (Or.inl ⟨by rfl, pA_⟩) pB_ ?_
                      refine pure_ (i := 12) (N := some 95) #[true, false, true, true, true, true, false, false, true, false, true, true, true, false, false, false, false, false] rfl rfl (any_of HT_.out (by kernel_rfl)) (fun _ _ _ h => h) (Or.inl ⟨by rfl, pA_⟩) pB_ ?_
                      refine pure_ (i := 13) (N := some 96) #[true, false, true, true, true, true, false, false, true, false, true, true, true, true, false, false, false, false] rfl rfl (any_of HT_.out (by kernel_rfl)) (fun _ _ _ h => h) (Or.inl ⟨by rfl, pA_⟩) pB_ ?_
                      refine take_ (i := 1) (N := some 84) (v := ?_) (a' := ?_) #[true, true, true, true, true, true, false, false, true, false, true, true, true, true, false, false, false, false] rfl rfl (take_ofW HT_.out HW_.out (by kernel_rfl)) (fun _ _ _ h => h) (Or.inl ⟨by rfl, ?_⟩) hHeld ?_ ?_
                      rotate_left
                      · rintro w' ⟨s0, s1, s2, s3, s4, s5⟩
                        go_simp
                        with_reducible rfl
                      rotate_left
                      · simp only [Act.put, List.setIfInBounds_toArray, List.set_cons_zero, List.set_cons_succ, i64_w, i32_w]
                        rfl
                      refine take_ (i := 6) (N := some 89) (v := ?_) (a' := ?_) #[true, true, true, true, true, true, true, false, true, false, true, true, true, true, false, false, false, false] rfl rfl (take_ofW HT_.out HW_.out (by kernel_rfl)) (fun _ _ _ h => h) (Or.inl ⟨by rfl, ?_⟩) hHeld ?_ ?_
                      rotate_left
                      · rintro w' ⟨s0, s1, s2, s3, s4, s5⟩
                        go_simp
                        with_reducible rfl
                      rotate_left
                      · simp only [Act.put, List.setIfInBounds_toArray, List.set_cons_zero, List.set_cons_succ, i64_w, i32_w]
                        rfl
                      refine pure_ (i := 7) (N := some 90) #[true, true, true, true, true, true, true, true, true, false, true, true, true, true, false, false, false, false] rfl rfl (any_of HT_.out (by kernel_rfl)) (fun _ _ _ h => h) (Or.inl ⟨by rfl, pA_⟩) pB_ ?_
                      refine take_ (i := 9) (N := some 92) (v := ?_) (a' := ?_) #[true, true, true, true, true, true, true, true, true, true, true, true, true, true, false, false, false, false] rfl rfl (take_ofW HT_.out HW_.out (by kernel_rfl)) (fun _ _ _ h => h) (Or.inl ⟨by rfl, ?_⟩) hHeld ?_ ?_
                      rotate_left
                      · rintro w' ⟨s0, s1, s2, s3, s4, s5⟩
                        go_simp
                        with_reducible rfl
                      rotate_left
                      · simp only [Act.put, List.setIfInBounds_toArray, List.set_cons_zero, List.set_cons_succ, i64_w, i32_w]
                        rfl
                      refine take_ (i := 14) (N := some 97) (v := ?_) (a' := ?_) #[true, true, true, true, true, true, true, true, true, true, true, true, true, true, true, false, false, false] rfl rfl (take_ofW HT_.out HW_.out (by kernel_rfl)) (fun _ _ _ h => h) (Or.inl ⟨by rfl, ?_⟩) hHeld ?_ ?_
                      rotate_left
                      · rintro w' ⟨s0, s1, s2, s3, s4, s5⟩
                        go_simp
                        with_reducible rfl
                      rotate_left
                      · simp only [Act.put, List.setIfInBounds_toArray, List.set_cons_zero, List.set_cons_succ, i64_w, i32_w]
                        rfl
                      refine pure_ (i := 15) (N := some 98) #[true, true, true, true, true, true, true, true, true, true, true, true, true, true, true, true, false, false] rfl rfl (any_of HT_.out (by kernel_rfl)) (fun _ _ _ h => h) (Or.inl ⟨by rfl, pA_⟩) pB_ ?_
                      refine pure_ (i := 16) (N := some 99) #[true, true, true, true, true, true, true, true, true, true, true, true, true, true, true, true, true, false] rfl rfl (any_of HT_.out (by kernel_rfl)) (fun _ _ _ h => h) (Or.inl ⟨by rfl, pA_⟩) pB_ ?_
                      refine last_ (i := 17) (N := none) #[true, true, true, true, true, true, true, true, true, true, true, true, true, true, true, true, true, true] rfl rfl (one_of HT_.out (by kernel_rfl)) (by decide) (fun K hK => ?_)
                      have hs36 : w35.cell? ⟨gb798, 0, none⟩ = some (.int .i64 x799000_2) := (blk_cell BK798.out 0).trans rfl
                      have hfs36 := blk_frozen BK798.out 0
                      have hns36_0 := NB796_798.out
                      have hms36_0 := NB798_796.out
                      have hs37 : w35.cell? ⟨gb798, 1, none⟩ = some (.int .i64 x799001_2) := (blk_cell BK798.out 1).trans rfl
                      have hfs37 := blk_frozen BK798.out 1
                      have hns37_0 := NB796_798.out
                      have hms37_0 := NB798_796.out
                      refine skip_ (w1 := ?_) (by rfl) rfl ?_ ?_
                      rotate_left
                      · go_simp
                        rfl
                      refine hK.out _ _ ?_
                      clear hK K
                      refine done_ (done_of HT_.out (by kernel_rfl)) ?_
                      try go_wp2
                      go_roundg k2
                      case measure => have := HJ5.out; have := HK2.out; omega
                      case rel => exact ⟨(wrap64 (x11_2 + 1)), (ji27), (ji28), (ji29), (ji30), qq13, H', ⟨by have := HJ5.out; have := HK2.out; omega⟩, ⟨by (with_reducible repeat (first | apply Kd.Q_alloc | apply Kd.Q_drewN | apply Kd.Q_drew)); exact Kd.Q_mono (Kd.Q_far (p := ⟨gb798, 1, none⟩) (Kd.Q_far (p := ⟨gb798, 0, none⟩) (Kd.Q_mono HO_3.out (fun k_ hk => (⟨hk, hk.2⟩ : _ ∧ k_ ≠ gb798))) (fun _ hk => hk.2) (.int .i64 ji29)) (fun _ hk => hk.2) (.int .i64 ji30)) (fun _ hk => ⟨hk.1.1, hk.1.2⟩)⟩, ⟨qq10 NB796_798.out BK796.out⟩, ⟨by (with_reducible repeat (first | refine blk_drewN ?_ _ | refine blk_drew ?_ | refine blk_alloc ?_ _)); refine blk_put (cs := #[.int .i64 ji29, .int .i64 x799001_2]) ?_ 1 _ rfl; (with_reducible repeat (first | refine blk_drewN ?_ _ | refine blk_drew ?_ | refine blk_alloc ?_ _)); refine blk_put (cs := #[.int .i64 x799000_2, .int .i64 x799001_2]) ?_ 0 _ rfl; (with_reducible repeat (first | refine blk_drewN ?_ _ | refine blk_drew ?_ | refine blk_alloc ?_ _)); exact BK798.out⟩, ⟨qq5 HB.out GE796.out GE798.out⟩⟩
                    · rw [if_neg c26] at H
                      exact absurd H (by simp)
                  · rw [if_neg c25] at H
                    have c25b0 : decide (x11_2 < (t787.length : Int)) = false := decide_eq_false c25
                    clear c25
                    have HC38 := Aside0.mk H
                    clear H
                    go_upto_region 19 with (fail)
                    go_cut [113] (fun v113 wc => ∃ (kq : Nat) (x113_37 : Bool), v113 = .bool x113_37 ∧ Aside0 (laws_FnPick.j2 kq t787 t790 t793 t794 x113_37 x797000_2 x797001_2 x799000_2 x799001_2 = some r) ∧ Aside0 (kq ≤ k2) ∧ Aside0 (Kd.Q k32 32 wc w.heap.size (fun k_ => k_ ≠ gb796 ∧ k_ ≠ gb798) (.slice (some ad795) t787.length co8) t787) ∧ Aside0 (wc.heap[gb796]? = some (.cells #[.int .i64 x797000_2, .int .i64 x797001_2] 32 (0, 0))) ∧ Aside0 (wc.heap[gb798]? = some (.cells #[.int .i64 x799000_2, .int .i64 x799001_2] 32 (0, 0))) ∧ Aside0 (Below w.heap.size w wc))
                    case first =>
                      have H := HC38.out
                      clear HC38
                      by_cases c39 : (wrap64 (x799000_2 - x797000_2)) > 20
                      · rw [if_pos c39] at H
                        have c39b0 : decide (20 < (wrap64 (x799000_2 - x797000_2))) = true := decide_eq_true c39
                        clear c39
                        (first | rw [c39b0] | (simp only [i64_w, i32_w]; rw [c39b0]) | skip)
                        have H' := Aside0.mk H
                        clear H
                        have hnb40 := NB798_796.out
                        have hnc40 := NB796_798.out
                        have hcz41_0 : wr.cell? ⟨gb798, 0, none⟩ = some (.int .i64 x799000_2) := (blk_cell BK798.out 0).trans rfl
                        have hcz41_1 : wr.cell? ⟨gb798, 1, none⟩ = some (.int .i64 x799001_2) := (blk_cell BK798.out 1).trans rfl
                        have hfz41_0 := blk_frozen BK798.out 0
                        have hfz41_1 := blk_frozen BK798.out 1
                        have hcz42_0 : wr.cell? ⟨gb796, 0, none⟩ = some (.int .i64 x797000_2) := (blk_cell BK796.out 0).trans rfl
                        have hcz42_1 : wr.cell? ⟨gb796, 1, none⟩ = some (.int .i64 x797001_2) := (blk_cell BK796.out 1).trans rfl
                        have hfz42_0 := blk_frozen BK796.out 0
                        have hfz42_1 := blk_frozen BK796.out 1
                        go_wp2
                        first | go_meet | ((try subst hji15); go_meet)
                        case rel => exact ⟨_, (true), qq13, H', ⟨by have := HJ5.out; have := HK2.out; first | omega | exact Nat.le_refl _⟩, ⟨qq24 HO_3.out⟩, ⟨qq9 BK796.out⟩, ⟨qq9 BK798.out⟩, ⟨qq5 HB.out GE796.out GE798.out⟩⟩
                      · rw [if_neg c39] at H
                        have c39b0 : decide (20 < (wrap64 (x799000_2 - x797000_2))) = false := decide_eq_false c39
                        clear c39
                        (first | rw [c39b0] | (simp only [i64_w, i32_w]; rw [c39b0]) | skip)
                        have H' := Aside0.mk H
                        clear H
                        have hnb43 := NB798_796.out
                        have hnc43 := NB796_798.out
                        have hcz44_0 : wr.cell? ⟨gb798, 0, none⟩ = some (.int .i64 x799000_2) := (blk_cell BK798.out 0).trans rfl
                        have hcz44_1 : wr.cell? ⟨gb798, 1, none⟩ = some (.int .i64 x799001_2) := (blk_cell BK798.out 1).trans rfl
                        have hfz44_0 := blk_frozen BK798.out 0
                        have hfz44_1 := blk_frozen BK798.out 1
                        have hcz45_0 : wr.cell? ⟨gb796, 0, none⟩ = some (.int .i64 x797000_2) := (blk_cell BK796.out 0).trans rfl
                        have hcz45_1 : wr.cell? ⟨gb796, 1, none⟩ = some (.int .i64 x797001_2) := (blk_cell BK796.out 1).trans rfl
                        have hfz45_0 := blk_frozen BK796.out 0
                        have hfz45_1 := blk_frozen BK796.out 1
                        go_wp2
                        first | go_meet | ((try subst hji15); go_meet)
                        case rel => exact ⟨_, (decide ((wrap64 (x799001_2 - x797001_2)) > 20)), qq13, H', ⟨by have := HJ5.out; have := HK2.out; first | omega | exact Nat.le_refl _⟩, ⟨qq24 HO_3.out⟩, ⟨qq9 BK796.out⟩, ⟨qq9 BK798.out⟩, ⟨qq5 HB.out GE796.out GE798.out⟩⟩
                    case rest =>
                      clear HC38
                      try clear c1
                      try clear c2
                      try clear c2b0
                      try clear c2b1
                      try clear p2
                      try clear c3
                      try clear c4
                      try clear p6
                      try clear p7
                      try clear q7
                      try clear hx7
                      try clear qi7
                      try clear p8
                      try clear q8
                      try clear hx8
                      try clear c10
                      try clear c11
                      try clear c11b0
                      try clear c11b1
                      try clear c12
                      try clear c16
                      try clear c16b0
                      try clear c16b1
                      try clear c17
                      try clear c17b0
                      try clear c17b1
                      try clear c23
                      try clear c25
                      try clear c25b0
                      try clear c26
                      try clear c26b0
                      try clear c37
                      try clear c38
                      try clear c39
                      try clear c39b0
                      try clear c40
                      try clear c43
                      try clear hcz21_0
                      try clear hcz21_1
                      try clear hcz24_0
                      try clear hcz24_1
                      try clear hcz41_0
                      try clear hcz41_1
                      try clear hcz42_0
                      try clear hcz42_1
                      try clear hcz44_0
                      try clear hcz44_1
                      try clear hcz45_0
                      try clear hcz45_1
                      try clear hfz21_0
                      try clear hfz21_1
                      try clear hfz24_0
                      try clear hfz24_1
                      try clear hfz41_0
                      try clear hfz41_1
                      try clear hfz42_0
                      try clear hfz42_1
                      try clear hfz44_0
                      try clear hfz44_1
                      try clear hfz45_0
                      try clear hfz45_1
                      try clear hx795_0
                      try clear hx795_1
                      try clear hx797_0
                      try clear hx797_1
                      try clear hx799_0
                      try clear hx799_1
                      try clear hx800_0
                      try clear hx800_1
                      try clear hx801_0
                      try clear hx801_1
                      try clear hx802_0
                      try clear hx802_1
                      try clear p2
                      try clear p6
                      try clear p7
                      try clear p795
                      try clear p797
                      try clear p799
                      try clear p800
                      try clear p801
                      try clear p802
                      try clear q7
                      try clear q795
                      try clear q797
                      try clear q799
                      try clear q800
                      try clear q801
                      try clear q802
                      obtain ⟨kq, x113_37, rfl, HA, HJ37, HO_3, BK796, BK798, HB⟩ := hcut
                      cases kq with
                      | zero => exact absurd HA.out (by simp [laws_FnPick.j2])
                      | succ kj37 =>
                        have H := HA.out
                        clear HA
                        simp only [laws_FnPick.j2] at H
                        by_cases c46 : x113_37 = true
                        · subst c46
                          have H1 : (some t793) = some r := by rw [if_pos rfl] at H; exact H
                          clear H
                          have H := H1
                          clear H1
                          obtain rfl := Option.some.inj H
                          go_wp2
                          go_ret
                          exact ⟨qq63, qq5 HB.out GE796.out GE798.out⟩
                        · replace c46 := Bool.eq_false_iff.mpr c46
                          subst c46
                          have H1 : (laws_FnPick.l1 kj37 t787 t790 t793 t794 0 0 x797000_2 x797000_2 x797001_2 x799000_2 x799001_2) = some r := by rw [if_neg (show ¬ (false = true) by decide)] at H; exact H
                          clear H
                          have H := H1
                          clear H1
                          have H' := Aside0.mk H
                          clear H
                          have hnb47 := NB796_798.out
                          have hnc47 := NB798_796.out
                          have hcz48_0 : wc.cell? ⟨gb796, 0, none⟩ = some (.int .i64 x797000_2) := (blk_cell BK796.out 0).trans rfl
                          have hcz48_1 : wc.cell? ⟨gb796, 1, none⟩ = some (.int .i64 x797001_2) := (blk_cell BK796.out 1).trans rfl
                          have hfz48_0 := blk_frozen BK796.out 0
                          have hfz48_1 := blk_frozen BK796.out 1
                          go_wp2
                          go_loopg [12, 13, 14] kj37 (fun kq v12 v13 v14 w' => ∃ (x12_4 : Int) (x13_4 : Int) (x14_4 : Int), v12 = .int .i64 x12_4 ∧ v13 = .int .i64 x13_4 ∧ v14 = .int .i64 x14_4 ∧ Aside0 (laws_FnPick.l1 kq t787 t790 t793 t794 x12_4 x13_4 x14_4 x797000_2 x797001_2 x799000_2 x799001_2 = some r) ∧ Aside0 (kq ≤ kj37) ∧ Aside0 (Kd.Q k32 32 w' w.heap.size (fun k_ => k_ ≠ gb796 ∧ k_ ≠ gb798) (.slice (some ad795) t787.length co8) t787) ∧ Aside0 (w'.heap[gb796]? = some (.cells #[.int .i64 x797000_2, .int .i64 x797001_2] 32 (0, 0))) ∧ Aside0 (w'.heap[gb798]? = some (.cells #[.int .i64 x799000_2, .int .i64 x799001_2] 32 (0, 0))) ∧ Aside0 (Below w.heap.size w w'))
                          case atStart => exact ⟨(0), (0), (x797000_2), qq13, qq13, qq13, H', ⟨Nat.le_refl _⟩, ⟨qq24 HO_3.out⟩, ⟨qq9 BK796.out⟩, ⟨qq9 BK798.out⟩, ⟨qq5 HB.out GE796.out GE798.out⟩⟩
                          case round =>
                            clear H'
                            try clear c1
                            try clear c2
                            try clear c2b0
                            try clear c2b1
                            try clear p2
                            try clear c3
                            try clear c4
                            try clear p6
                            try clear p7
                            try clear q7
                            try clear hx7
                            try clear qi7
                            try clear p8
                            try clear q8
                            try clear hx8
                            try clear c10
                            try clear c11
                            try clear c11b0
                            try clear c11b1
                            try clear c12
                            try clear c16
                            try clear c16b0
                            try clear c16b1
                            try clear c17
                            try clear c17b0
                            try clear c17b1
                            try clear c23
                            try clear c25
                            try clear c25b0
                            try clear c26
                            try clear c26b0
                            try clear c37
                            try clear c38
                            try clear c39
                            try clear c39b0
                            try clear c40
                            try clear c43
                            try clear c46
                            try clear c47
                            try clear hcz21_0
                            try clear hcz21_1
                            try clear hcz24_0
                            try clear hcz24_1
                            try clear hcz41_0
                            try clear hcz41_1
                            try clear hcz42_0
                            try clear hcz42_1
                            try clear hcz44_0
                            try clear hcz44_1
                            try clear hcz45_0
                            try clear hcz45_1
                            try clear hcz48_0
                            try clear hcz48_1
                            try clear hfz21_0
                            try clear hfz21_1
                            try clear hfz24_0
                            try clear hfz24_1
                            try clear hfz41_0
                            try clear hfz41_1
                            try clear hfz42_0
                            try clear hfz42_1
                            try clear hfz44_0
                            try clear hfz44_1
                            try clear hfz45_0
                            try clear hfz45_1
                            try clear hfz48_0
                            try clear hfz48_1
                            try clear hx795_0
                            try clear hx795_1
                            try clear hx797_0
                            try clear hx797_1
                            try clear hx799_0
                            try clear hx799_1
                            try clear hx800_0
                            try clear hx800_1
                            try clear hx801_0
                            try clear hx801_1
                            try clear hx802_0
                            try clear hx802_1
                            try clear p2
                            try clear p6
                            try clear p7
                            try clear p795
                            try clear p797
                            try clear p799
                            try clear p8
                            try clear p800
                            try clear p801
                            try clear p802
                            try clear q7
                            try clear q795
                            try clear q797
                            try clear q799
                            try clear q8
                            try clear q800
                            try clear q801
                            try clear q802
                            obtain ⟨x12_4, x13_4, x14_4, rfl, rfl, rfl, HA, HK4, HO_3, BK796, BK798, HB⟩ := hrel
                            cases gk with
                            | zero => exact absurd HA.out (by simp [laws_FnPick.l1])
                            | succ k4 =>
                              have H := HA.out
                              clear HA
                              simp only [laws_FnPick.l1] at H
                              by_cases c49 : x14_4 ≤ x799000_2
                              · rw [if_pos c49] at H
                                have c49b0 : decide (x14_4 ≤ x799000_2) = true := decide_eq_true c49
                                clear c49
                                have H' := Aside0.mk H
                                clear H
                                have hnb50 := NB798_796.out
                                have hnc50 := NB796_798.out
                                have hcz51_0 : wr.cell? ⟨gb798, 0, none⟩ = some (.int .i64 x799000_2) := (blk_cell BK798.out 0).trans rfl
                                have hcz51_1 : wr.cell? ⟨gb798, 1, none⟩ = some (.int .i64 x799001_2) := (blk_cell BK798.out 1).trans rfl
                                have hfz51_0 := blk_frozen BK798.out 0
                                have hfz51_1 := blk_frozen BK798.out 1
                                have hcz52_0 : wr.cell? ⟨gb796, 0, none⟩ = some (.int .i64 x797000_2) := (blk_cell BK796.out 0).trans rfl
                                have hcz52_1 : wr.cell? ⟨gb796, 1, none⟩ = some (.int .i64 x797001_2) := (blk_cell BK796.out 1).trans rfl
                                have hfz52_0 := blk_frozen BK796.out 0
                                have hfz52_1 := blk_frozen BK796.out 1
                                go_wp2
                                go_loopg [12, 13, 15] k4 (fun kq v12 v13 v15 w' => ∃ (x12_5 : Int) (x13_5 : Int) (x15_5 : Int), v12 = .int .i64 x12_5 ∧ v13 = .int .i64 x13_5 ∧ v15 = .int .i64 x15_5 ∧ Aside0 (laws_FnPick.l2 kq t787 t790 t793 t794 x12_5 x13_5 x14_4 x15_5 x797000_2 x797001_2 x799000_2 x799001_2 = some r) ∧ Aside0 (kq ≤ k4) ∧ Aside0 (Kd.Q k32 32 w' w.heap.size (fun k_ => k_ ≠ gb796 ∧ k_ ≠ gb798) (.slice (some ad795) t787.length co8) t787) ∧ Aside0 (w'.heap[gb796]? = some (.cells #[.int .i64 x797000_2, .int .i64 x797001_2] 32 (0, 0))) ∧ Aside0 (w'.heap[gb798]? = some (.cells #[.int .i64 x799000_2, .int .i64 x799001_2] 32 (0, 0))) ∧ Aside0 (Below w.heap.size w w'))
                                case atStart => exact ⟨(x12_4), (x13_4), (x797001_2), qq13, qq13, qq13, H', ⟨Nat.le_refl _⟩, ⟨qq24 HO_3.out⟩, ⟨qq9 BK796.out⟩, ⟨qq9 BK798.out⟩, ⟨qq5 HB.out GE796.out GE798.out⟩⟩
                                case round =>
                                  clear H'
                                  try clear c1
                                  try clear c2
                                  try clear c2b0
                                  try clear c2b1
                                  try clear p2
                                  try clear c3
                                  try clear c4
                                  try clear c5
                                  try clear p6
                                  try clear p7
                                  try clear q7
                                  try clear hx7
                                  try clear qi7
                                  try clear p8
                                  try clear q8
                                  try clear hx8
                                  try clear c10
                                  try clear c11
                                  try clear c11b0
                                  try clear c11b1
                                  try clear c12
                                  try clear c16
                                  try clear c16b0
                                  try clear c16b1
                                  try clear c17
                                  try clear c17b0
                                  try clear c17b1
                                  try clear c23
                                  try clear c25
                                  try clear c25b0
                                  try clear c26
                                  try clear c26b0
                                  try clear c37
                                  try clear c38
                                  try clear c39
                                  try clear c39b0
                                  try clear c40
                                  try clear c43
                                  try clear c46
                                  try clear c47
                                  try clear c49
                                  try clear c49b0
                                  try clear c50
                                  try clear hcz21_0
                                  try clear hcz21_1
                                  try clear hcz24_0
                                  try clear hcz24_1
                                  try clear hcz41_0
                                  try clear hcz41_1
                                  try clear hcz42_0
                                  try clear hcz42_1
                                  try clear hcz44_0
                                  try clear hcz44_1
                                  try clear hcz45_0
                                  try clear hcz45_1
                                  try clear hcz48_0
                                  try clear hcz48_1
                                  try clear hcz51_0
                                  try clear hcz51_1
                                  try clear hcz52_0
                                  try clear hcz52_1
                                  try clear hfz21_0
                                  try clear hfz21_1
                                  try clear hfz24_0
                                  try clear hfz24_1
                                  try clear hfz41_0
                                  try clear hfz41_1
                                  try clear hfz42_0
                                  try clear hfz42_1
                                  try clear hfz44_0
                                  try clear hfz44_1
                                  try clear hfz45_0
                                  try clear hfz45_1
                                  try clear hfz48_0
                                  try clear hfz48_1
                                  try clear hfz51_0
                                  try clear hfz51_1
                                  try clear hfz52_0
                                  try clear hfz52_1
                                  try clear hx795_0
                                  try clear hx795_1
                                  try clear hx797_0
                                  try clear hx797_1
                                  try clear hx799_0
                                  try clear hx799_1
                                  try clear hx800_0
                                  try clear hx800_1
                                  try clear hx801_0
                                  try clear hx801_1
                                  try clear hx802_0
                                  try clear hx802_1
                                  try clear p2
                                  try clear p6
                                  try clear p7
                                  try clear p795
                                  try clear p797
                                  try clear p799
                                  try clear p8
                                  try clear p800
                                  try clear p801
                                  try clear p802
                                  try clear q7
                                  try clear q795
                                  try clear q797
                                  try clear q799
                                  try clear q8
                                  try clear q800
                                  try clear q801
                                  try clear q802
                                  obtain ⟨x12_5, x13_5, x15_5, rfl, rfl, rfl, HA, HK5, HO_3, BK796, BK798, HB⟩ := hrel
                                  cases gk with
                                  | zero => exact absurd HA.out (by simp [laws_FnPick.l2])
                                  | succ k5 =>
                                    have H := HA.out
                                    clear HA
                                    simp only [laws_FnPick.l2] at H
                                    by_cases c53 : x15_5 ≤ x799001_2
                                    · rw [if_pos c53] at H
                                      have c53b0 : decide (x15_5 ≤ x799001_2) = true := decide_eq_true c53
                                      clear c53
                                      replace H := Option.bind_eq_some_iff.mp H
                                      obtain ⟨⟨t803, t804⟩, A540, H⟩ := H
                                      replace H : (if t804 = true then (if t803 = 1 then (if t803 = 0 then (laws_FnPick.l2 k5 t787 t790 t793 t794 (wrap64 (x12_5 + 1)) (wrap64 (x13_5 + 1)) x14_4 (wrap64 (x15_5 + 1)) x797000_2 x797001_2 x799000_2 x799001_2) else (laws_FnPick.l2 k5 t787 t790 t793 t794 (wrap64 (x12_5 + 1)) x13_5 x14_4 (wrap64 (x15_5 + 1)) x797000_2 x797001_2 x799000_2 x799001_2)) else (if t803 = 0 then (laws_FnPick.l2 k5 t787 t790 t793 t794 x12_5 (wrap64 (x13_5 + 1)) x14_4 (wrap64 (x15_5 + 1)) x797000_2 x797001_2 x799000_2 x799001_2) else (laws_FnPick.l2 k5 t787 t790 t793 t794 x12_5 x13_5 x14_4 (wrap64 (x15_5 + 1)) x797000_2 x797001_2 x799000_2 x799001_2))) else (some false)) = some r := H
                                      have A54 := Aside0.mk A540
                                      clear A540
                                      by_cases c55 : t804 = true
                                      · subst c55
                                        have H1 : (if t803 = 1 then (if t803 = 0 then (laws_FnPick.l2 k5 t787 t790 t793 t794 (wrap64 (x12_5 + 1)) (wrap64 (x13_5 + 1)) x14_4 (wrap64 (x15_5 + 1)) x797000_2 x797001_2 x799000_2 x799001_2) else (laws_FnPick.l2 k5 t787 t790 t793 t794 (wrap64 (x12_5 + 1)) x13_5 x14_4 (wrap64 (x15_5 + 1)) x797000_2 x797001_2 x799000_2 x799001_2)) else (if t803 = 0 then (laws_FnPick.l2 k5 t787 t790 t793 t794 x12_5 (wrap64 (x13_5 + 1)) x14_4 (wrap64 (x15_5 + 1)) x797000_2 x797001_2 x799000_2 x799001_2) else (laws_FnPick.l2 k5 t787 t790 t793 t794 x12_5 x13_5 x14_4 (wrap64 (x15_5 + 1)) x797000_2 x797001_2 x799000_2 x799001_2))) = some r := by rw [if_pos rfl] at H; exact H
                                        clear H
                                        have H := H1
                                        clear H1
                                        refine (Classical.em (t803 = 1)).elim (fun c56 => ?lc56p) (fun c56 => ?lc56n)
                                        case' lc56p =>
                                          rw [if_pos c56] at H
                                          have c56b0 : (t803 == 1) = true := beq_iff_eq.mpr c56
                                          have c56b1 : (t803 != 1) = false := bne_eq_false_iff_eq.mpr c56
                                          clear c56
                                          refine (Classical.em (t803 = 0)).elim (fun c57 => ?lc57p) (fun c57 => ?lc57n)
                                          case' lc57p =>
                                            rw [if_pos c57] at H
                                            have c57b0 : (t803 == 0) = true := beq_iff_eq.mpr c57
                                            have c57b1 : (t803 != 0) = false := bne_eq_false_iff_eq.mpr c57
                                            clear c57
                                            have H' := Aside0.mk H
                                            clear H
                                            have hnb58 := NB798_796.out
                                            have hnc58 := NB796_798.out
                                            have hcz59_0 : wr.cell? ⟨gb798, 0, none⟩ = some (.int .i64 x799000_2) := (blk_cell BK798.out 0).trans rfl
                                            have hcz59_1 : wr.cell? ⟨gb798, 1, none⟩ = some (.int .i64 x799001_2) := (blk_cell BK798.out 1).trans rfl
                                            have hfz59_0 := blk_frozen BK798.out 0
                                            have hfz59_1 := blk_frozen BK798.out 1
                                          case' lc57n =>
                                            rw [if_neg c57] at H
                                            have c57b0 : (t803 == 0) = false := beq_eq_false_iff_ne.mpr c57
                                            have c57b1 : (t803 != 0) = true := bne_iff_ne.mpr c57
                                            have H' := Aside0.mk H
                                            clear H
                                            have hnb61 := NB798_796.out
                                            have hnc61 := NB796_798.out
                                            have hcz62_0 : wr.cell? ⟨gb798, 0, none⟩ = some (.int .i64 x799000_2) := (blk_cell BK798.out 0).trans rfl
                                            have hcz62_1 : wr.cell? ⟨gb798, 1, none⟩ = some (.int .i64 x799001_2) := (blk_cell BK798.out 1).trans rfl
                                            have hfz62_0 := blk_frozen BK798.out 0
                                            have hfz62_1 := blk_frozen BK798.out 1
                                        case' lc56n =>
                                          rw [if_neg c56] at H
                                          have c56b0 : (t803 == 1) = false := beq_eq_false_iff_ne.mpr c56
                                          have c56b1 : (t803 != 1) = true := bne_iff_ne.mpr c56
                                          refine (Classical.em (t803 = 0)).elim (fun c64 => ?lc64p) (fun c64 => ?lc64n)
                                          case' lc64p =>
                                            rw [if_pos c64] at H
                                            have c64b0 : (t803 == 0) = true := beq_iff_eq.mpr c64
                                            have c64b1 : (t803 != 0) = false := bne_eq_false_iff_eq.mpr c64
                                            clear c64
                                            have H' := Aside0.mk H
                                            clear H
                                            have hnb65 := NB798_796.out
                                            have hnc65 := NB796_798.out
                                            have hcz66_0 : wr.cell? ⟨gb798, 0, none⟩ = some (.int .i64 x799000_2) := (blk_cell BK798.out 0).trans rfl
                                            have hcz66_1 : wr.cell? ⟨gb798, 1, none⟩ = some (.int .i64 x799001_2) := (blk_cell BK798.out 1).trans rfl
                                            have hfz66_0 := blk_frozen BK798.out 0
                                            have hfz66_1 := blk_frozen BK798.out 1
                                          case' lc64n =>
                                            rw [if_neg c64] at H
                                            have c64b0 : (t803 == 0) = false := beq_eq_false_iff_ne.mpr c64
                                            have c64b1 : (t803 != 0) = true := bne_iff_ne.mpr c64
                                            have H' := Aside0.mk H
                                            clear H
                                            have hnb68 := NB798_796.out
                                            have hnc68 := NB796_798.out
                                            have hcz69_0 : wr.cell? ⟨gb798, 0, none⟩ = some (.int .i64 x799000_2) := (blk_cell BK798.out 0).trans rfl
                                            have hcz69_1 : wr.cell? ⟨gb798, 1, none⟩ = some (.int .i64 x799001_2) := (blk_cell BK798.out 1).trans rfl
                                            have hfz69_0 := blk_frozen BK798.out 0
                                            have hfz69_1 := blk_frozen BK798.out 1
                                        all_goals (
                                          go_wp2_with (first | ((with_reducible refine gate_callee (f := 25) rfl ?_); refine goesL_ (some 136) rfl rfl Try.func25 (by kernel_rfl) rfl #[.slice (some ad795) t787.length co8, .agg #[.int .i64 x14_4, .int .i64 x15_5]] rfl qq2 ?_; (with_reducible refine (impl_PolyPlace.calls _ _ t787 x14_4 x15_5 t803 true _ ?side1 ?side2 A54.out).mono ?_); (case side1 => exact qq37 HO_3.out); (case side2 => exact (Kd.Q_reads' HO_3.out).2.1); rintro e w60 ⟨rfl, hb⟩; refine ⟨_, rfl, ?_⟩; have n0_ := Aside0.mk (Kd.Q_below (qq24 HO_3.out) hb); have n1_ := Aside0.mk (bbl_ BK796.out hb); have n2_ := Aside0.mk (bbl_ BK798.out hb); have n3_ := Aside0.mk (below_step (qq5 HB.out GE796.out GE798.out) hb); clear HO_3; clear BK796; clear BK798; clear HB; have HO_3 := n0_; have BK796 := n1_; have BK798 := n2_; have HB := n3_; clear n0_ n1_ n2_ n3_; (try clear hb); (try clear hb2); (try clear hk); (try clear hi)))
                                          go_roundg k5
                                          case measure => have := HJ5.out; have := HK2.out; have := HJ37.out; have := HK4.out; have := HK5.out; omega
                                          case rel => first | (exact ⟨(wrap64 (x12_5 + 1)), (wrap64 (x13_5 + 1)), (wrap64 (x15_5 + 1)), qq13, qq13, qq13, H', ⟨qq47⟩, ⟨qq24 HO_3.out⟩, ⟨qq9 BK796.out⟩, ⟨qq9 BK798.out⟩, ⟨qq5 HB.out GE796.out GE798.out⟩⟩) | (exact ⟨(wrap64 (x12_5 + 1)), (x13_5), (wrap64 (x15_5 + 1)), qq13, qq13, qq13, H', ⟨qq47⟩, ⟨qq24 HO_3.out⟩, ⟨qq9 BK796.out⟩, ⟨qq9 BK798.out⟩, ⟨qq5 HB.out GE796.out GE798.out⟩⟩) | (exact ⟨(x12_5), (wrap64 (x13_5 + 1)), (wrap64 (x15_5 + 1)), qq13, qq13, qq13, H', ⟨qq47⟩, ⟨qq24 HO_3.out⟩, ⟨qq9 BK796.out⟩, ⟨qq9 BK798.out⟩, ⟨qq5 HB.out GE796.out GE798.out⟩⟩) | (exact ⟨(x12_5), (x13_5), (wrap64 (x15_5 + 1)), qq13, qq13, qq13, H', ⟨qq47⟩, ⟨qq24 HO_3.out⟩, ⟨qq9 BK796.out⟩, ⟨qq9 BK798.out⟩, ⟨qq5 HB.out GE796.out GE798.out⟩⟩)
                                          )
                                      · replace c55 := Bool.eq_false_iff.mpr c55
                                        subst c55
                                        have H1 : (some false) = some r := by rw [if_neg (show ¬ (false = true) by decide)] at H; exact H
                                        clear H
                                        have H := H1
                                        clear H1
                                        exact absurd ((Option.some.inj H).trans hT.out) (by decide)
                                    · rw [if_neg c53] at H
                                      have c53b0 : decide (x15_5 ≤ x799001_2) = false := decide_eq_false c53
                                      clear c53
                                      have H' := Aside0.mk H
                                      clear H
                                      have hnb71 := NB798_796.out
                                      have hnc71 := NB796_798.out
                                      have hcz72_0 : wr.cell? ⟨gb798, 0, none⟩ = some (.int .i64 x799000_2) := (blk_cell BK798.out 0).trans rfl
                                      have hcz72_1 : wr.cell? ⟨gb798, 1, none⟩ = some (.int .i64 x799001_2) := (blk_cell BK798.out 1).trans rfl
                                      have hfz72_0 := blk_frozen BK798.out 0
                                      have hfz72_1 := blk_frozen BK798.out 1
                                      go_wp2
                                      go_roundg k5
                                      case measure => have := HJ5.out; have := HK2.out; have := HJ37.out; have := HK4.out; have := HK5.out; omega
                                      case rel => exact ⟨(x12_5), (x13_5), (wrap64 (x14_4 + 1)), qq13, qq13, qq13, H', ⟨qq47⟩, ⟨qq24 HO_3.out⟩, ⟨qq9 BK796.out⟩, ⟨qq9 BK798.out⟩, ⟨qq5 HB.out GE796.out GE798.out⟩⟩
                              · rw [if_neg c49] at H
                                have c49b0 : decide (x14_4 ≤ x799000_2) = false := decide_eq_false c49
                                clear c49
                                by_cases c73 : t793 = true
                                · subst c73
                                  have H1 : (if x12_4 = t790 then (some (x13_4 == t794)) else (some false)) = some r := by rw [if_pos rfl] at H; exact H
                                  clear H
                                  have H := H1
                                  clear H1
                                  by_cases c74 : x12_4 = t790
                                  · rw [if_pos c74] at H
                                    have c74b0 : (x12_4 == t790) = true := beq_iff_eq.mpr c74
                                    have c74b1 : (x12_4 != t790) = false := bne_eq_false_iff_eq.mpr c74
                                    clear c74
                                    obtain rfl := Option.some.inj H
                                    have hnb75 := NB798_796.out
                                    have hnc75 := NB796_798.out
                                    have hcz76_0 : wr.cell? ⟨gb798, 0, none⟩ = some (.int .i64 x799000_2) := (blk_cell BK798.out 0).trans rfl
                                    have hcz76_1 : wr.cell? ⟨gb798, 1, none⟩ = some (.int .i64 x799001_2) := (blk_cell BK798.out 1).trans rfl
                                    have hfz76_0 := blk_frozen BK798.out 0
                                    have hfz76_1 := blk_frozen BK798.out 1
                                    go_wp2
                                    go_ret
                                    exact ⟨qq63, qq5 HB.out GE796.out GE798.out⟩
                                  · rw [if_neg c74] at H
                                    have c74b0 : (x12_4 == t790) = false := beq_eq_false_iff_ne.mpr c74
                                    have c74b1 : (x12_4 != t790) = true := bne_iff_ne.mpr c74
                                    exact absurd ((Option.some.inj H).trans hT.out) (by decide)
                                · replace c73 := Bool.eq_false_iff.mpr c73
                                  subst c73
                                  have H1 : (some false) = some r := by rw [if_neg (show ¬ (false = true) by decide)] at H; exact H
                                  clear H
                                  have H := H1
                                  clear H1
                                  exact absurd ((Option.some.inj H).trans hT.out) (by decide)
            · rw [if_neg c17] at H
              exact absurd H (by simp)
          · rw [if_neg c16] at H
            have c16b0 : ((ji15) == (wrap64 ((wrap64 ((wrap64 (2 * t790)) + t794)) - 2))) = false := beq_eq_false_iff_ne.mpr c16
            have c16b1 : ((ji15) != (wrap64 ((wrap64 ((wrap64 (2 * t790)) + t794)) - 2))) = true := bne_iff_ne.mpr c16
            exact absurd ((Option.some.inj H).trans hT.out) (by decide)
/-- THE ONE PURE STATEMENT of laws_FnPick: yours. -/
def laws_FnPick.Pure : Prop := ∀ (l0 : List Int), l0.length ≤ maxLen → l0.length * 1 ≤ 140737488351232 → (∀ x ∈ l0, (Lit.int .u8 x).wf = true) → ∃ k, laws_FnPick.f k l0 = some true
theorem laws_FnPick.walk (P : laws_FnPick.Pure) (a0 : Option Addr) (len0 cap0 : Nat) (z0 : List Int) (w : World) (w0 : (a0 = none ∧ len0 = 0 ∧ cap0 = 0 ∧ z0 = []) ∨ ∃ x, a0 = some x ∧ len0 ≤ cap0 ∧ cap0 ≤ maxLen ∧ z0.length = cap0 ∧ (∀ i, i < z0.length → w.cell? (x.add i) = some (.int .u8 (z0.getD i 0))) ∧ ∀ n ∈ z0, (Lit.int .u8 n).wf = true) (y0 : len0 * 1 ≤ 140737488351232) :
    Calls Try.prog 10 #[.slice a0 len0 cap0] w fun e w' => e = .returned (.bool true) ∧ Below w.heap.size w w' := by
  obtain ⟨l0, rfl, hr0, hm0, hw0, hc0⟩ := ReadsInt.ofRowC w0
  obtain ⟨k, h⟩ := P l0 hm0 y0 hw0
  refine (laws_FnPick.calls k _ _ l0 true w (Kd.C_of_reads (d := (0 : Int)) (h1 := fun _ => rfl) hr0) hc0 h rfl).mono ?_
  rintro e w' ⟨rfl, hd⟩
  exact ⟨rfl, hd⟩
end Go.Proofs.Ytgdhgncdpmalcaa.Q
namespace Go.Proofs.Ytgdhgncdpmalcaa.Geo
set_option linter.unusedVariables false
/-! ### Sums -/
def sm (lo : Nat) : Nat → (Nat → Int) → Int
  | 0, _ => 0
  | k + 1, f => sm lo k f + f (lo + k)
theorem sm_congr {lo k : Nat} {f g : Nat → Int} (h : ∀ j, lo ≤ j → j < lo + k → f j = g j) : sm lo k f = sm lo k g := by
  induction k with
  | zero => rfl
  | succ k ih => simp only [sm]; rw [ih (fun j a b => h j a (by omega)), h (lo + k) (by omega) (by omega)]
theorem sm_tele (lo k : Nat) (f : Nat → Int) : sm lo k (fun j => f (j + 1) - f j) = f (lo + k) - f lo := by
  induction k with
  | zero => simp [sm]
  | succ k ih => simp only [sm]; rw [ih, show lo + (k + 1) = lo + k + 1 from rfl]; omega
theorem sm_first (lo k : Nat) (f : Nat → Int) : sm lo (k + 1) f = f lo + sm (lo + 1) k f := by
  induction k with
  | zero => simp [sm]
  | succ k ih => rw [sm, ih, sm, show lo + 1 + k = lo + (k + 1) from by omega]; omega
theorem sm_add (lo k : Nat) (f g : Nat → Int) : sm lo k (fun j => f j + g j) = sm lo k f + sm lo k g := by
  induction k with
  | zero => rfl
  | succ k ih => simp only [sm]; rw [ih]; omega
theorem sm_sub (lo k : Nat) (f g : Nat → Int) : sm lo k (fun j => f j - g j) = sm lo k f - sm lo k g := by
  induction k with
  | zero => rfl
  | succ k ih => simp only [sm]; rw [ih]; omega
theorem sm_zero {lo k : Nat} {f : Nat → Int} (h : ∀ j, lo ≤ j → j < lo + k → f j = 0) : sm lo k f = 0 := by
  induction k with
  | zero => rfl
  | succ k ih => simp only [sm]; rw [ih (fun j a b => h j a (by omega)), h (lo + k) (by omega) (by omega)]; rfl
theorem sm_shift (lo k : Nat) (f : Nat → Int) (h : f (lo + k) = f lo) : sm (lo + 1) k f = sm lo k f := by
  have a := sm_first lo k f
  simp only [sm] at a
  omega
theorem sm_period {n : Nat} {f : Nat → Int} (h : ∀ i, f (i + n) = f i) (lo : Nat) : sm lo n f = sm 0 n f := by
  induction lo with
  | zero => rfl
  | succ lo ih => rw [sm_shift lo n f (h lo), ih]
theorem sm_split (lo a b : Nat) (f : Nat → Int) : sm lo (a + b) f = sm lo a f + sm (lo + a) b f := by
  induction b with
  | zero => simp [sm]
  | succ b ih => rw [show a + (b + 1) = (a + b) + 1 from rfl, sm, ih, sm, show lo + (a + b) = lo + a + b from by omega]; omega
/-- A row of cells. -/
theorem sm_cells {lo k : Nat} {f g h : Nat → Int} (H : ∀ j, lo ≤ j → j < lo + k → f j + h (j + 1) = g j + h j) : sm lo k f + h (lo + k) = sm lo k g + h lo := by
  have e : sm lo k f = sm lo k (fun j => g j - (h (j + 1) - h j)) := sm_congr (fun j a b => by have := H j a b; omega)
  have e2 := sm_sub lo k g (fun j => h (j + 1) - h j)
  rw [sm_tele] at e2
  rw [e, e2]; omega

theorem sm_neg (lo k : Nat) (f : Nat → Int) : sm lo k (fun j => -(f j)) = -(sm lo k f) := by
  induction k with
  | zero => rfl
  | succ k ih => simp only [sm]; rw [ih]; omega
theorem sm_rev (k : Nat) (f : Nat → Int) : sm 0 k (fun j => f (k - 1 - j)) = sm 0 k f := by
  induction k with
  | zero => rfl
  | succ k ih =>
    rw [sm_first, sm]
    have : sm (0 + 1) k (fun j => f (k + 1 - 1 - j)) = sm 0 k (fun j => f (k - 1 - j)) := by
      have sh : ∀ (m : Nat) (g h : Nat → Int), (∀ j, j < m → g (j + 1) = h j) → sm (0 + 1) m g = sm 0 m h := by
        intro m g h
        induction m with
        | zero => intro _; rfl
        | succ m ihm => intro hh; simp only [sm]; rw [ihm (fun j hj => hh j (by omega)), show 0 + 1 + m = m + 1 from by omega, hh m (by omega), Nat.zero_add]
      exact sh k _ _ (fun j hj => by rw [show k + 1 - 1 - (j + 1) = k - 1 - j from by omega])
    rw [this, ih, Nat.zero_add, show k + 1 - 1 - 0 = k from by omega]
    omega
theorem sm_sh (m lo : Nat) (g : Nat → Int) : sm lo m g = sm 0 m (fun j => g (lo + j)) := by
  induction m with
  | zero => rfl
  | succ m ih => simp only [sm]; rw [ih, Nat.zero_add]
theorem sm_bd {lo k : Nat} {f : Nat → Int} {B : Int} (h : ∀ j, lo ≤ j → j < lo + k → -B ≤ f j ∧ f j ≤ B) : -(B * k) ≤ sm lo k f ∧ sm lo k f ≤ B * k := by
  induction k with
  | zero => simp [sm]
  | succ k ih =>
    have h1 := ih (fun j a b => h j a (by omega))
    have h2 := h (lo + k) (by omega) (by omega)
    have e : B * ((k + 1 : Nat) : Int) = B * (k : Int) + B := by rw [Int.natCast_add, Int.mul_add]; simp
    rw [sm, e]
    omega
end Go.Proofs.Ytgdhgncdpmalcaa.Geo
namespace Go.Proofs.Ytgdhgncdpmalcaa.Pure
open Go.RowKit Go.Proofs.Ytgdhgncdpmalcaa.Q Go.Proofs.Ytgdhgncdpmalcaa.Ring Go.Proofs.YtgdhgncdpmalcaaW.PrintWords Go.Proofs.YtgdhgncdpmalcaaW.PrintLast
theorem pwA {x : Int} (h0 : 0 ≤ x) (h1 : x ≤ 4611686018427387904) : wrap64 x = x := by unfold wrap64; omega
theorem Area_l0 {l : List Pt} (hl : l.length ≤ 1048576) (n : Nat) : ∀ (j k : Nat), j + n = l.length → n < k → spec_l31Area.l0 k l (areaS l j) (j : Int) = some (areaS l l.length) := by
  induction n with
  | zero =>
    intro j k hj hk
    obtain ⟨k, rfl⟩ : ∃ m, k = m + 1 := ⟨k - 1, by omega⟩
    rw [spec_l31Area.l0, if_neg (by omega), show j = l.length by omega]
  | succ n ih =>
    intro j k hj hk
    obtain ⟨k, rfl⟩ : ∃ m, k = m + 1 := ⟨k - 1, by omega⟩
    have hw : wrap64 ((j : Int) + 1) = ((j + 1 : Nat) : Int) := by rw [pwA (by omega) (by omega)]; omega
    have hmod : Int.tmod ((j + 1 : Nat) : Int) (l.length : Int) = (((j + 1) % l.length : Nat) : Int) := by
      rw [Int.tmod_eq_emod_of_nonneg (by omega)]; simp
    have hlt : (j + 1) % l.length < l.length := Nat.mod_lt _ (by omega)
    rw [spec_l31Area.l0, if_pos (by omega), if_pos (by omega), if_neg (by omega), hw, hmod, if_pos (by omega), if_pos (by omega)]
    simp only [at_rd, spec_l2Cross.f, Option.bind_some]
    have := ih (j + 1) k (by omega) (by omega)
    rw [areaS] at this
    unfold crossP nxt at this
    rw [Int.mul_comm (at_ l ((j + 1) % l.length)).f0] at this
    exact this
end Go.Proofs.Ytgdhgncdpmalcaa.Pure
namespace Go.Proofs.Ytgdhgncdpmalcaa.Pure
open Go.RowKit Go.Proofs.Ytgdhgncdpmalcaa.Q Go.Proofs.YtgdhgncdpmalcaaW.PrintWords Go.Proofs.YtgdhgncdpmalcaaW.PrintLast
/-- The first corner, then the others from the last one on. -/
def backL : List Pt → List Pt
  | [] => []
  | p :: l => p :: l.reverse
theorem Back_ok {p : Pt} {l : List Pt} (hl : l.length ≤ 100) (n : Nat) : ∀ (x : List Pt) (k : Nat), n < k → n ≤ l.length → x.length ≤ 200 - n → spec_PolyBack.l0 k (p :: l) x (n : Int) = some (x ++ (l.take n).reverse, true) := by
  induction n with
  | zero =>
    intro x k hk _ _
    obtain ⟨k, rfl⟩ : ∃ m, k = m + 1 := ⟨k - 1, by omega⟩
    rw [spec_PolyBack.l0, if_neg (by omega)]
    simp
  | succ n ih =>
    intro x k hk hn hx
    obtain ⟨k, rfl⟩ : ∃ m, k = m + 1 := ⟨k - 1, by omega⟩
    rw [spec_PolyBack.l0, if_pos (by omega), if_pos (by omega), if_pos (by simp; omega), if_pos (by omega), pw64 (by omega) (by omega), show ((n + 1 : Nat) : Int) - 1 = n by omega, ih _ k (by omega) (by omega) (by simp; omega)]
    have e : rd_T32 (p :: l) ((n + 1 : Nat) : Int) = l[n] := by simp [rd_T32, List.getElem?_eq_getElem (show n < l.length by omega)]
    have e2 : (l.take (n + 1)).reverse = l[n] :: (l.take n).reverse := by rw [List.take_add_one, List.getElem?_eq_getElem (show n < l.length by omega)]; simp
    rw [e, e2, List.append_assoc]
    rfl
theorem spec_PolyBack_eq (k : Nat) (l : List Pt) (hl : l.length ≤ 1048576) (hk : l.length + 30 < k) : spec_PolyBack.f k l = some (if cvB l = true then (backL l, true) else ([], false)) := by
  unfold spec_PolyBack.f
  rw [l31Points_eq _ _ hl (by omega)]
  simp only [Option.bind_some]
  by_cases h : cvB l = true
  · have hv := cvB_iff.1 h
    rw [if_pos h, if_pos h, if_pos (by omega)]
    cases l with
    | nil => simp at hv
    | cons p l =>
      simp only [List.length_cons] at hv hk hl ⊢
      rw [pw64 (by omega) (by omega), show ((l.length + 1 : Nat) : Int) - 1 = (l.length : Int) by omega, Back_ok (by omega) l.length _ _ (by omega) (by omega) (by simp; omega), List.take_length]
      rfl
  · rw [if_neg h, if_neg h]
end Go.Proofs.Ytgdhgncdpmalcaa.Pure
namespace Go.Proofs.Ytgdhgncdpmalcaa.Pure
open Go.RowKit Go.Proofs.Ytgdhgncdpmalcaa.Q Go.Proofs.Ytgdhgncdpmalcaa.Ring Go.Proofs.Ytgdhgncdpmalcaa.Geo Go.Proofs.YtgdhgncdpmalcaaW.PrintWords Go.Proofs.YtgdhgncdpmalcaaW.PrintLast
/-- Corner i of a list, gone round as often as it takes. -/
def PC (l : List Pt) (i : Nat) : Pt := at_ l (i % l.length)
theorem PC_at {l : List Pt} {i : Nat} (h : i < l.length) : PC l i = at_ l i := by unfold PC; rw [Nat.mod_eq_of_lt h]
theorem PC_per (l : List Pt) (i : Nat) : PC l (i + l.length) = PC l i := by unfold PC; rw [Nat.add_mod_right]
theorem PC_nxt {l : List Pt} {i : Nat} : nxt l i = PC l (i + 1) := rfl
def crI (p q : Pt) : Int := p.f0 * q.f1 - q.f0 * p.f1
def area2 (l : List Pt) : Int := sm 0 l.length (fun i => crI (PC l i) (PC l (i + 1)))
theorem at_mem {l : List Pt} {j : Nat} (hj : j < l.length) : at_ l j ∈ l := by unfold at_; rw [List.getD_eq_getElem?_getD, List.getElem?_eq_getElem hj]; exact List.getElem_mem hj
theorem cv_at {l : List Pt} (h : cvB l = true) (i : Nat) : (-10000 ≤ (PC l i).f0 ∧ (PC l i).f0 ≤ 10000) ∧ -10000 ≤ (PC l i).f1 ∧ (PC l i).f1 ≤ 10000 := by
  have hv := cvB_iff.1 h
  exact ptB_iff.1 (hv.2 _ (at_mem (Nat.mod_lt _ (by omega))))
theorem mulX {x y : Int} (hx : -10000 ≤ x ∧ x ≤ 10000) (hy : -10000 ≤ y ∧ y ≤ 10000) : -100000000 ≤ x * y ∧ x * y ≤ 100000000 := by
  have h1 : x.natAbs ≤ 10000 := by omega
  have h2 : y.natAbs ≤ 10000 := by omega
  have h3 : (x * y).natAbs ≤ 10000 * 10000 := by rw [Int.natAbs_mul]; exact Nat.mul_le_mul h1 h2
  omega
theorem crI_bd {p q : Pt} (hp : (-10000 ≤ p.f0 ∧ p.f0 ≤ 10000) ∧ -10000 ≤ p.f1 ∧ p.f1 ≤ 10000) (hq : (-10000 ≤ q.f0 ∧ q.f0 ≤ 10000) ∧ -10000 ≤ q.f1 ∧ q.f1 ≤ 10000) : -200000000 ≤ crI p q ∧ crI p q ≤ 200000000 := by
  have h1 := mulX hp.1 hq.2
  have h2 := mulX hq.1 hp.2
  unfold crI; omega
theorem crossP_eq {p q : Pt} (hp : (-10000 ≤ p.f0 ∧ p.f0 ≤ 10000) ∧ -10000 ≤ p.f1 ∧ p.f1 ≤ 10000) (hq : (-10000 ≤ q.f0 ∧ q.f0 ≤ 10000) ∧ -10000 ≤ q.f1 ∧ q.f1 ≤ 10000) : crossP p q = crI p q := by
  have h1 := mulX hp.1 hq.2
  have h2 := mulX hq.1 hp.2
  unfold crossP crI
  rw [pw64 (x := p.f0 * q.f1) (by omega) (by omega), pw64 (x := q.f0 * p.f1) (by omega) (by omega), pw64 (by omega) (by omega)]
theorem areaS_sm {l : List Pt} (h : cvB l = true) (j : Nat) (hj : j ≤ l.length) : areaS l j = sm 0 j (fun i => crI (PC l i) (PC l (i + 1))) := by
  have hv := cvB_iff.1 h
  induction j with
  | zero => rfl
  | succ j ih =>
    have e := ih (by omega)
    have b := sm_bd (lo := 0) (k := j) (f := fun i => crI (PC l i) (PC l (i + 1))) (B := 200000000) (fun i _ _ => crI_bd (cv_at h i) (cv_at h (i + 1)))
    have c := crI_bd (cv_at h j) (cv_at h (j + 1))
    rw [areaS, sm, e, PC_nxt, ← PC_at (show j < l.length by omega), crossP_eq (cv_at h j) (cv_at h (j + 1)), pw64 (by omega) (by omega), Nat.zero_add]
theorem areaS_eq {l : List Pt} (h : cvB l = true) : areaS l l.length = area2 l := areaS_sm h _ (Nat.le_refl _)
theorem area2_bd {l : List Pt} (h : cvB l = true) : -2400000000 ≤ area2 l ∧ area2 l ≤ 2400000000 := by
  have hv := cvB_iff.1 h
  have := sm_bd (lo := 0) (k := l.length) (f := fun i => crI (PC l i) (PC l (i + 1))) (B := 200000000) (fun i _ _ => crI_bd (cv_at h i) (cv_at h (i + 1)))
  unfold area2; omega
/-! lists begun elsewhere -/
/-! the opposite order -/
/-! turned -/
/-! what PolyArea answers -/
def areaR (l : List Pt) : Int × Bool := if cvB l = true then (area2 l, true) else (0, false)
theorem implArea_eq (l : List Pt) : impl_PolyArea.f l = some (areaR l) := by
  unfold impl_PolyArea.f areaR
  by_cases h : cvB l = true
  · rw [if_pos h, if_pos h, areaS_eq h]
  · rw [if_neg h, if_neg h]
end Go.Proofs.Ytgdhgncdpmalcaa.Pure
namespace Go.Proofs.Ytgdhgncdpmalcaa.Pure
open Go.RowKit Go.Proofs.Ytgdhgncdpmalcaa.Q Go.Proofs.Ytgdhgncdpmalcaa.Ring Go.Proofs.Ytgdhgncdpmalcaa.Geo Go.Proofs.YtgdhgncdpmalcaaW.PrintWords Go.Proofs.YtgdhgncdpmalcaaW.PrintLast
def opp (x y : Int) : Prop := (0 < x ∧ y < 0) ∨ (x < 0 ∧ 0 < y)
/-- Two segments have a point in common. -/
def meetI (ax ay bx b_y cx cy dx dy : Int) : Prop := onP ax ay bx b_y cx cy ∨ onP ax ay bx b_y dx dy ∨ onP cx cy dx dy ax ay ∨ onP cx cy dx dy bx b_y ∨
  (opp (crs ax ay bx b_y cx cy) (crs ax ay bx b_y dx dy) ∧ opp (crs cx cy dx dy ax ay) (crs cx cy dx dy bx b_y))
structure SimpI (n : Nat) (X Y : Nat → Int) : Prop where
  n3 : 3 ≤ n
  px : ∀ i, X (i + n) = X i
  py : ∀ i, Y (i + n) = Y i
  dist : ∀ i j, i < n → j < n → X i = X j → Y i = Y j → i = j
  fold : ∀ i, ¬ onP (X i) (Y i) (X (i + 1)) (Y (i + 1)) (X (i + 2)) (Y (i + 2)) ∧ ¬ onP (X (i + 1)) (Y (i + 1)) (X (i + 2)) (Y (i + 2)) (X i) (Y i)
  meet : ∀ i j, i + 2 ≤ j → j + 2 ≤ i + n → ¬ meetI (X i) (Y i) (X (i + 1)) (Y (i + 1)) (X j) (Y j) (X (j + 1)) (Y (j + 1))
/-! the points of a list -/
def XX (l : List Pt) (i : Nat) : Int := (PC l i).f0
def YY (l : List Pt) (i : Nat) : Int := (PC l i).f1
theorem pvp {l : List Pt} (h : cvB l = true) (i : Nat) : PVP (PC l i) := by
  have := cv_at h i
  exact PV_iff.2 ⟨this.1.1, this.1.2, this.2.1, this.2.2⟩
theorem on_iff {p q r : Pt} (hp : PVP p) (hq : PVP q) (hr : PVP r) : onPt p q r = true ↔ onP p.f0 p.f1 q.f0 q.f1 r.f0 r.f1 := by
  unfold onPt onR
  rw [decide_eq_true_eq]
  exact ⟨fun h => h.2.2.2, fun h => ⟨hp, hq, hr, h⟩⟩
theorem on_no {p q r : Pt} (hp : PVP p) (hq : PVP q) (hr : PVP r) : onPt p q r = false ↔ ¬ onP p.f0 p.f1 q.f0 q.f1 r.f0 r.f1 := by
  rw [← on_iff hp hq hr, Bool.not_eq_true]
theorem sgn_eq {p q r : Pt} (hp : PVP p) (hq : PVP q) (hr : PVP r) : sgnP p q r = sgn (crs p.f0 p.f1 q.f0 q.f1 r.f0 r.f1) := by
  unfold sgnP; rw [sideR_yes hp hq hr]
theorem sgn_opp (x y : Int) : sgn x * sgn y < 0 ↔ opp x y := by
  unfold sgn opp
  split <;> split <;> (try split) <;> (try split) <;> first | omega | (simp; omega)
theorem meet_iff {a b c d : Pt} (ha : PVP a) (hb : PVP b) (hc : PVP c) (hd : PVP d) : meetPt a b c d = true ↔ meetI a.f0 a.f1 b.f0 b.f1 c.f0 c.f1 d.f0 d.f1 := by
  unfold meetPt meetI
  simp only [Bool.or_eq_true, Bool.and_eq_true, decide_eq_true_eq]
  rw [on_iff ha hb hc, on_iff ha hb hd, on_iff hc hd ha, on_iff hc hd hb, sgn_eq ha hb hc, sgn_eq ha hb hd, sgn_eq hc hd ha, sgn_eq hc hd hb, sgn_opp, sgn_opp]
  simp only [or_assoc]
theorem meet_no {a b c d : Pt} (ha : PVP a) (hb : PVP b) (hc : PVP c) (hd : PVP d) : meetPt a b c d = false ↔ ¬ meetI a.f0 a.f1 b.f0 b.f1 c.f0 c.f1 d.f0 d.f1 := by
  rw [← meet_iff ha hb hc hd, Bool.not_eq_true]
theorem PC_mod (l : List Pt) (i : Nat) : PC l (i % l.length) = PC l i := by unfold PC; rw [Nat.mod_mod]
theorem PC_mod1 (l : List Pt) (i d : Nat) : PC l (i % l.length + d) = PC l (i + d) := by unfold PC; rw [Nat.mod_add_mod]
theorem pt_eq {p q : Pt} (h0 : p.f0 = q.f0) (h1 : p.f1 = q.f1) : p = q := by
  obtain ⟨a, b⟩ := p; obtain ⟨c, d⟩ := q
  dsimp only at h0 h1; rw [h0, h1]
theorem same_no {p q : Pt} : sameP p q = false ↔ p ≠ q := by
  rw [← Bool.not_eq_true, sameP_iff]
  exact ⟨fun h e => h (by rw [e]; exact ⟨rfl, rfl⟩), fun h e => h (pt_eq e.1 e.2)⟩
theorem simp_iff {l : List Pt} (h : cvB l = true) : simpleB l = true ↔ SimpI l.length (XX l) (YY l) := by
  have hv := cvB_iff.1 h
  have pv := pvp h
  have at0 : ∀ i, i < l.length → at_ l i = PC l i := fun i hi => (PC_at hi).symm
  have atm : ∀ i, at_ l (i % l.length) = PC l i := fun i => rfl
  have nx : ∀ i, nxt l i = PC l (i + 1) := fun i => rfl
  have nxm : ∀ i d, nxt l ((i + d) % l.length) = PC l (i + d + 1) := fun i d => by rw [nx, PC_mod1]
  rw [simple_iff]
  constructor
  · rintro ⟨h1, h2⟩
    refine ⟨by omega, fun i => by unfold XX; rw [PC_per], fun i => by unfold YY; rw [PC_per], ?_, fun i => ?_, fun i j hi hj => ?_⟩
    · have key : ∀ i j, i < l.length → j < l.length → i < j → PC l i = PC l j → False := by
        intro i j hi hj hij e
        have := h1 i hi (j - i - 1) (by omega)
        unfold dupAt at this
        rw [show i + 1 + (j - i - 1) = j by omega, atm, at0 i hi, same_no] at this
        exact this e.symm
      intro i j hi hj e0 e1
      have e : PC l i = PC l j := pt_eq e0 e1
      rcases Nat.lt_trichotomy i j with q | q | q
      · exact (key i j hi hj q e).elim
      · exact q
      · exact (key j i hj hi q e.symm).elim
    · have := (h2 (i % l.length) (Nat.mod_lt _ (by omega))).1
      unfold foldAt at this
      rw [Bool.or_eq_false_iff, atm, nx, nxm, PC_mod1] at this
      rw [show i % l.length + 1 + 1 = i % l.length + 2 from rfl, PC_mod1] at this
      exact ⟨(on_no (pv _) (pv _) (pv _)).1 this.1, (on_no (pv _) (pv _) (pv _)).1 this.2⟩
    · have := (h2 (i % l.length) (Nat.mod_lt _ (by omega))).2 (j - i - 2) (by omega)
      unfold meetAt at this
      rw [atm, nx, PC_mod1, nxm, atm] at this
      rw [show i % l.length + 2 + (j - i - 2) + 1 = i % l.length + (j - i + 1) by omega, show i % l.length + 2 + (j - i - 2) = i % l.length + (j - i) by omega, PC_mod1, PC_mod1,
        show i + (j - i + 1) = j + 1 by omega, show i + (j - i) = j by omega] at this
      exact (meet_no (pv _) (pv _) (pv _) (pv _)).1 this
  · intro H
    refine ⟨fun i hi t ht => ?_, fun i hi => ⟨?_, fun t ht => ?_⟩⟩
    · unfold dupAt
      rw [atm, at0 i hi, same_no]
      intro e
      have hm := Nat.mod_lt (i + 1 + t) (show 0 < l.length by omega)
      rw [← PC_mod] at e
      have := H.dist _ _ hm hi (by unfold XX; rw [e]) (by unfold YY; rw [e])
      by_cases c : i + 1 + t < l.length
      · rw [Nat.mod_eq_of_lt c] at this; omega
      · rw [show i + 1 + t = (i + 1 + t - l.length) + l.length by omega, Nat.add_mod_right, Nat.mod_eq_of_lt (by omega)] at this
        omega
    · unfold foldAt
      rw [at0 i hi, nx, nxm, Bool.or_eq_false_iff]
      have := H.fold i
      exact ⟨(on_no (pv _) (pv _) (pv _)).2 this.1, (on_no (pv _) (pv _) (pv _)).2 this.2⟩
    · unfold meetAt
      rw [at0 i hi, nx, nxm, atm]
      exact (meet_no (pv _) (pv _) (pv _) (pv _)).2 (H.meet i (i + 2 + t) (by omega) (by omega))
theorem okS_iff {l : List Pt} : okS l = true ↔ cvB l = true ∧ SimpI l.length (XX l) (YY l) := by
  unfold okS
  rw [Bool.and_eq_true]
  exact ⟨fun h => ⟨h.1, (simp_iff h.1).1 h.2⟩, fun h => ⟨h.1, (simp_iff h.1).2 h.2⟩⟩
/-! another beginning, the other way round, a shift, a turn -/
theorem modp {n : Nat} {X : Nat → Int} (px : ∀ i, X (i + n) = X i) (i : Nat) : X (i % n) = X i := by
  have : ∀ k, X (i % n + n * k) = X (i % n) := by
    intro k
    induction k with
    | zero => rfl
    | succ k ih => rw [Nat.mul_succ, ← Nat.add_assoc, px, ih]
  have e := this (i / n)
  rw [Nat.mod_add_div] at e
  exact e.symm
theorem SimpI.shift {n : Nat} {X Y : Nat → Int} (h : SimpI n X Y) (k : Nat) : SimpI n (fun i => X (i + k)) (fun i => Y (i + k)) := by
  have n3 := h.n3
  refine ⟨h.n3, fun i => by rw [show i + n + k = i + k + n by omega, h.px], fun i => by rw [show i + n + k = i + k + n by omega, h.py], fun i j hi hj e0 e1 => ?_, fun i => ?_, fun i j hi hj => ?_⟩
  · rw [← modp h.px (i + k), ← modp h.px (j + k)] at e0
    rw [← modp h.py (i + k), ← modp h.py (j + k)] at e1
    have := h.dist _ _ (Nat.mod_lt _ (by omega)) (Nat.mod_lt _ (by omega)) e0 e1
    have a := Nat.div_add_mod (i + k) n
    have b := Nat.div_add_mod (j + k) n
    rw [this] at a
    rcases Nat.lt_trichotomy i j with q | q | q
    · exfalso
      rcases Nat.lt_or_ge ((i + k) / n) ((j + k) / n) with c | c
      · have : n * ((i + k) / n + 1) ≤ n * ((j + k) / n) := Nat.mul_le_mul_left _ c
        rw [Nat.mul_succ] at this; omega
      · have : n * ((j + k) / n) ≤ n * ((i + k) / n) := Nat.mul_le_mul_left _ c
        omega
    · exact q
    · exfalso
      rcases Nat.lt_or_ge ((j + k) / n) ((i + k) / n) with c | c
      · have : n * ((j + k) / n + 1) ≤ n * ((i + k) / n) := Nat.mul_le_mul_left _ c
        rw [Nat.mul_succ] at this; omega
      · have : n * ((i + k) / n) ≤ n * ((j + k) / n) := Nat.mul_le_mul_left _ c
        omega
  · have := h.fold (i + k)
    rw [show i + k + 1 = i + 1 + k by omega, show i + k + 2 = i + 2 + k by omega] at this
    exact this
  · have := h.meet (i + k) (j + k) (by omega) (by omega)
    rw [show i + k + 1 = i + 1 + k by omega, show j + k + 1 = j + 1 + k by omega] at this
    exact this
theorem crs_swap (a b c d e f : Int) : crs c d a b e f = -(crs a b c d e f) := by unfold crs; grind
theorem onP_sym {a b c d e f : Int} : onP c d a b e f ↔ onP a b c d e f := by
  unfold onP
  rw [crs_swap]
  constructor <;> intro h <;> omega
theorem SimpI.congr {n : Nat} {X Y X' Y' : Nat → Int} (h : SimpI n X Y) (hx : ∀ i, X' i = X i) (hy : ∀ i, Y' i = Y i) : SimpI n X' Y' := by
  have e1 : X' = X := funext hx
  have e2 : Y' = Y := funext hy
  rw [e1, e2]; exact h
/-- A map of points that keeps what lies where. -/
structure Rigid (f : Int → Int → Int × Int) : Prop where
  inj : ∀ a b c d, f a b = f c d → a = c ∧ b = d
  crs : ∀ a b c d e g, crs (f a b).1 (f a b).2 (f c d).1 (f c d).2 (f e g).1 (f e g).2 = crs a b c d e g
  on : ∀ a b c d e g, onP (f a b).1 (f a b).2 (f c d).1 (f c d).2 (f e g).1 (f e g).2 ↔ onP a b c d e g
theorem SimpI.map {n : Nat} {X Y : Nat → Int} (h : SimpI n X Y) {f : Int → Int → Int × Int} (hf : Rigid f) : SimpI n (fun i => (f (X i) (Y i)).1) (fun i => (f (X i) (Y i)).2) := by
  refine ⟨h.n3, fun i => by rw [h.px, h.py], fun i => by rw [h.px, h.py], fun i j hi hj e0 e1 => ?_, fun i => ?_, fun i j hi hj => ?_⟩
  · have := hf.inj _ _ _ _ (Prod.ext e0 e1)
    exact h.dist i j hi hj this.1 this.2
  · rw [hf.on, hf.on]; exact h.fold i
  · have := h.meet i j hi hj
    unfold meetI at this ⊢
    rw [hf.on, hf.on, hf.on, hf.on, hf.crs, hf.crs, hf.crs, hf.crs]
    exact this
end Go.Proofs.Ytgdhgncdpmalcaa.Pure
namespace Go.Proofs.Ytgdhgncdpmalcaa.Pure
open Go.RowKit Go.Proofs.Ytgdhgncdpmalcaa.Q Go.Proofs.Ytgdhgncdpmalcaa.Ring Go.Proofs.Ytgdhgncdpmalcaa.Geo Go.Proofs.YtgdhgncdpmalcaaW.PrintWords Go.Proofs.YtgdhgncdpmalcaaW.PrintLast
/-- 1 if side i flips the place. -/
def flX (l : List Pt) (p : Pt) (i : Nat) : Int := if flipB (PC l i) (PC l (i + 1)) p then 1 else 0
def onX (l : List Pt) (p : Pt) (i : Nat) : Bool := onPt (PC l i) (PC l (i + 1)) p
def parI (s : Int) : Int := if s % 2 = 0 then -1 else 1
theorem placeV_par {l : List Pt} {p : Pt} (j : Nat) (hj : j ≤ l.length) : placeV l p j = parI (sm 0 j (flX l p)) := by
  induction j with
  | zero => rfl
  | succ j ih =>
    have e := ih (by omega)
    rw [placeV, sm, Nat.zero_add, e, ← PC_at (show j < l.length by omega), PC_nxt]
    unfold flX parI
    cases flipB (PC l j) (PC l (j + 1)) p
    · simp
    · simp only [if_true]
      by_cases c : sm 0 j (fun i => if flipB (PC l i) (PC l (i + 1)) p = true then 1 else 0) % 2 = 0
      · rw [if_pos c, if_neg (by omega)]; rfl
      · rw [if_neg c, if_pos (by omega)]
theorem onX_at {l : List Pt} {p : Pt} {i : Nat} (hi : i < l.length) : onAt l p i = onX l p i := by unfold onAt onX; rw [PC_at hi]; rfl
theorem onX_per (l : List Pt) (p : Pt) (i : Nat) : onX l p (i % l.length) = onX l p i := by unfold onX; rw [PC_mod, PC_mod1]
theorem place_on {l : List Pt} {p : Pt} (h0 : 0 < l.length) {i : Nat} (h : onX l p i = true) : placeR l p = 0 := by
  have hm := Nat.mod_lt i h0
  exact placeR_on hm (by rw [onX_at hm, onX_per]; exact h)
theorem place_off {l : List Pt} {p : Pt} (h : ∀ i, onX l p i = false) : placeR l p = parI (sm 0 l.length (flX l p)) := by
  rw [placeR_off (fun j hj => by rw [onX_at hj]; exact h j), placeV_par _ (Nat.le_refl _)]
end Go.Proofs.Ytgdhgncdpmalcaa.Pure
namespace Go.Proofs.Ytgdhgncdpmalcaa.Geo
set_option linter.unusedVariables false

theorem pos_of_mul {a b : Int} (h : 0 < a * b) (hb : 0 ≤ b) : 0 < a := by
  apply Classical.byContradiction; intro k
  have := Int.mul_nonneg (show 0 ≤ -a by omega) hb
  rw [Int.neg_mul] at this; omega
theorem pos_of_mul' {a b : Int} (h : 0 < a * b) (ha : 0 ≤ a) : 0 < b := by
  rw [Int.mul_comm] at h; exact pos_of_mul h ha

def low (x y : Int) : Prop := y < 0 ∨ (y = 0 ∧ 0 < x)
instance (x y : Int) : Decidable (low x y) := by unfold low; exact inferInstance
def L (x y : Int) : Int := if low x y then 1 else 0
def cro (a b c d : Int) : Int := a * d - b * c
/-- The crossing of the step from one direction to another one over the ray to the east. -/
def cr (a b c d : Int) : Int :=
  if low a b then (if low c d then 0 else if 0 < cro a b c d then 1 else 0)
  else (if low c d then (if cro a b c d < 0 then -1 else 0) else 0)

theorem cro_swap (a b c d : Int) : cro c d a b = - cro a b c d := by unfold cro; rw [Int.mul_comm c b, Int.mul_comm d a]; omega
theorem cr_swap (a b c d : Int) : cr c d a b = - cr a b c d := by
  unfold cr; rw [cro_swap a b c d]
  repeat' split
  all_goals omega

/-- Two directions in one open half plane. -/
theorem cr_half {gx gy a b c d : Int} (h1 : 0 < gx * a + gy * b) (h2 : 0 < gx * c + gy * d) :
    cr a b c d = (if 0 < gx then L a b - L c d else 0) := by
  have key : gx * cro a b c d = (gx * a + gy * b) * d - (gx * c + gy * d) * b := by unfold cro; grind
  have aux : ∀ {p q r s : Int}, low p q → ¬ low r s → 0 < gx * p + gy * q → 0 < gx * r + gy * s →
      0 < (gx * p + gy * q) * s - (gx * r + gy * s) * q := by
    intro p q r s hl hn k1 k2
    unfold low at hl hn
    have hq : q ≤ 0 := by omega
    have hs : 0 ≤ s := by omega
    have e1 := Int.mul_nonneg (Int.le_of_lt k1) hs
    have e2 := Int.mul_nonneg (Int.le_of_lt k2) (show 0 ≤ -q by omega)
    rw [Int.mul_neg] at e2
    by_cases z : q = 0 ∧ s = 0
    · obtain ⟨rfl, rfl⟩ := z
      have hp : 0 < p := by omega
      have hr : r ≤ 0 := by omega
      simp at k1 k2
      have hg : 0 < gx := pos_of_mul k1 (Int.le_of_lt hp)
      have := Int.mul_nonneg (Int.le_of_lt hg) (show 0 ≤ -r by omega)
      rw [Int.mul_neg] at this; omega
    · rcases Classical.em (q = 0) with hq0 | hq0
      · have : 0 < s := by omega
        have := Int.mul_pos k1 this
        omega
      · have : 0 < -q := by omega
        have := Int.mul_pos k2 this
        rw [Int.mul_neg] at this; omega
  unfold cr L
  by_cases ha : low a b <;> by_cases hc : low c d
  · simp [ha, hc]
  · have k := aux ha hc h1 h2
    rw [← key] at k
    simp only [ha, hc, if_true, if_false]
    by_cases hg : 0 < gx
    · have : 0 < cro a b c d := pos_of_mul' k (Int.le_of_lt hg)
      simp [hg, this]
    · have : ¬ 0 < cro a b c d := fun h => by
        have := Int.mul_nonneg (show 0 ≤ -gx by omega) (Int.le_of_lt h)
        rw [Int.neg_mul] at this; omega
      simp [hg, this]
  · have k := aux hc ha h2 h1
    have key2 : gx * cro a b c d = - ((gx * c + gy * d) * b - (gx * a + gy * b) * d) := by rw [key]; omega
    simp only [ha, hc, if_true, if_false]
    by_cases hg : 0 < gx
    · have : cro a b c d < 0 := by
        apply Classical.byContradiction; intro h
        have := Int.mul_nonneg (Int.le_of_lt hg) (show 0 ≤ cro a b c d by omega)
        omega
      simp [hg, this]
    · have : ¬ cro a b c d < 0 := fun h => by
        have := Int.mul_nonneg (show 0 ≤ -gx by omega) (show 0 ≤ - cro a b c d by omega)
        rw [Int.neg_mul, Int.mul_neg] at this; omega
      simp [hg, this]
  · simp [ha, hc]

/-- Disjoint: a line lies between two segments, seen as one functional that is positive on all four secants. -/
def Sep (ax ay bx b_y cx cy dx dy : Int) : Prop := ∃ gx gy : Int, 0 < gx * (cx - ax) + gy * (cy - ay) ∧ 0 < gx * (dx - ax) + gy * (dy - ay) ∧ 0 < gx * (cx - bx) + gy * (cy - b_y) ∧ 0 < gx * (dx - bx) + gy * (dy - b_y)

/-- The cell: seen from the ends of one of two disjoint segments, the ends of the other one. -/
theorem cell {ax ay bx b_y cx cy dx dy : Int} (h : Sep ax ay bx b_y cx cy dx dy) :
    cr (cx - ax) (cy - ay) (dx - ax) (dy - ay) + cr (dx - ax) (dy - ay) (dx - bx) (dy - b_y) =
    cr (cx - bx) (cy - b_y) (dx - bx) (dy - b_y) + cr (cx - ax) (cy - ay) (cx - bx) (cy - b_y) := by
  obtain ⟨gx, gy, h1, h2, h3, h4⟩ := h
  rw [cr_half h1 h2, cr_half h2 h4, cr_half h3 h4, cr_half h1 h3]
  split <;> omega

/-- Not antiparallel, and none is 0: one functional is positive on both. -/
def Fwd (a b c d : Int) : Prop := ∃ gx gy : Int, 0 < gx * a + gy * b ∧ 0 < gx * c + gy * d

theorem tri {a b c d : Int} (h : Fwd a b c d) : cr a b (a + c) (b + d) + cr (a + c) (b + d) c d = cr a b c d := by
  obtain ⟨gx, gy, h1, h2⟩ := h
  have h3 : 0 < gx * (a + c) + gy * (b + d) := by rw [Int.mul_add, Int.mul_add]; omega
  rw [cr_half h1 h3, cr_half h3 h2, cr_half h1 h2]
  split <;> omega

theorem low_neg {a b : Int} (h : ¬ (a = 0 ∧ b = 0)) : low (-a) (-b) ↔ ¬ low a b := by unfold low; omega
theorem cr_neg {a b c d : Int} (h : Fwd a b c d) : cr a b c d = cr (-a) (-b) (-c) (-d) + L a b - L c d := by
  obtain ⟨gx, gy, h1, h2⟩ := h
  have h1' : 0 < (-gx) * (-a) + (-gy) * (-b) := by rw [Int.neg_mul_neg, Int.neg_mul_neg]; exact h1
  have h2' : 0 < (-gx) * (-c) + (-gy) * (-d) := by rw [Int.neg_mul_neg, Int.neg_mul_neg]; exact h2
  have ha : ¬ (a = 0 ∧ b = 0) := fun ⟨x, y⟩ => by subst x; subst y; simp at h1
  have hc : ¬ (c = 0 ∧ d = 0) := fun ⟨x, y⟩ => by subst x; subst y; simp at h2
  rw [cr_half h1 h2, cr_half h1' h2']
  have la : L (-a) (-b) = 1 - L a b := by unfold L; simp only [low_neg ha]; split <;> simp_all
  have lc : L (-c) (-d) = 1 - L c d := by unfold L; simp only [low_neg hc]; split <;> simp_all
  rw [la, lc]
  rcases Classical.em (gx = 0) with hg | hg
  · subst hg
    simp at h1 h2
    have : L a b = L c d := by
      have lw : (low a b ↔ low c d) → L a b = L c d := fun e => by unfold L; simp only [e]
      refine lw ?_
      unfold low
      rcases Int.lt_trichotomy gy 0 with g | g | g
      · have hb : b < 0 := by
          apply Classical.byContradiction; intro h
          have := Int.mul_nonneg (show 0 ≤ -gy by omega) (show 0 ≤ b by omega)
          rw [Int.neg_mul] at this; omega
        have hd : d < 0 := by
          apply Classical.byContradiction; intro h
          have := Int.mul_nonneg (show 0 ≤ -gy by omega) (show 0 ≤ d by omega)
          rw [Int.neg_mul] at this; omega
        simp [hb, hd]
      · subst g; simp at h1
      · have hb : 0 < b := by
          apply Classical.byContradiction; intro h
          have := Int.mul_nonneg (show 0 ≤ gy by omega) (show 0 ≤ -b by omega)
          rw [Int.mul_neg] at this; omega
        have hd : 0 < d := by
          apply Classical.byContradiction; intro h
          have := Int.mul_nonneg (show 0 ≤ gy by omega) (show 0 ≤ -d by omega)
          rw [Int.mul_neg] at this; omega
        omega
    simp; omega
  · by_cases g : 0 < gx
    · rw [if_pos g, if_neg (by omega)]; omega
    · rw [if_neg g, if_pos (by omega)]; omega

/-! ### Simple polygons -/
/-- A closed polygon: corners X i, Y i with the period n. Sides that are no neighbours are apart; no corner folds back. -/
structure Simple (n : Nat) (X Y : Nat → Int) : Prop where
  n3 : 3 ≤ n
  px : ∀ i, X (i + n) = X i
  py : ∀ i, Y (i + n) = Y i
  sep : ∀ i j, i + 2 ≤ j → j + 2 ≤ i + n → Sep (X i) (Y i) (X (i + 1)) (Y (i + 1)) (X j) (Y j) (X (j + 1)) (Y (j + 1))
  fwd : ∀ i, Fwd (X (i + 1) - X i) (Y (i + 1) - Y i) (X (i + 2) - X (i + 1)) (Y (i + 2) - Y (i + 1))

/-- The crossing of side j, seen from a point. -/
def side (X Y : Nat → Int) (x y : Int) (j : Nat) : Int := cr (X j - x) (Y j - y) (X (j + 1) - x) (Y (j + 1) - y)
/-- Seen from the corner i: all sides that do not touch it. -/
def open_ (n : Nat) (X Y : Nat → Int) (i : Nat) : Int := sm (i + 1) (n - 2) (side X Y (X i) (Y i))

theorem Fwd.neg {a b c d : Int} (h : Fwd a b c d) : Fwd (-a) (-b) (-c) (-d) := by
  obtain ⟨gx, gy, h1, h2⟩ := h
  exact ⟨-gx, -gy, by rw [Int.neg_mul_neg, Int.neg_mul_neg]; exact h1, by rw [Int.neg_mul_neg, Int.neg_mul_neg]; exact h2⟩
theorem tri' {a b c d s t : Int} (h : Fwd a b c d) (hs : s = a + c) (ht : t = b + d) : cr a b s t + cr s t c d = cr a b c d := by subst hs; subst ht; exact tri h
theorem trin {a b c d s t : Int} (h : Fwd a b c d) (hs : s = -a - c) (ht : t = -b - d) : cr (-a) (-b) s t + cr s t (-c) (-d) = cr (-a) (-b) (-c) (-d) :=
  tri' h.neg (by omega) (by omega)

theorem open_step {n : Nat} {X Y : Nat → Int} (h : Simple n X Y) (i : Nat) :
    open_ n X Y (i + 2) + cr (X (i + 2) - X (i + 1)) (Y (i + 2) - Y (i + 1)) (X (i + 3) - X (i + 2)) (Y (i + 3) - Y (i + 2)) =
    open_ n X Y (i + 1) + cr (-(X (i + 1) - X i)) (-(Y (i + 1) - Y i)) (-(X (i + 2) - X (i + 1))) (-(Y (i + 2) - Y (i + 1))) := by
  obtain ⟨m, rfl⟩ : ∃ m, n = m + 3 := ⟨n - 3, by have := h.n3; omega⟩
  have e1 : open_ (m + 3) X Y (i + 1) = side X Y (X (i + 1)) (Y (i + 1)) (i + 2) + sm (i + 3) m (side X Y (X (i + 1)) (Y (i + 1))) := sm_first (i + 2) m _
  have e2 : open_ (m + 3) X Y (i + 2) = sm (i + 3) m (side X Y (X (i + 2)) (Y (i + 2))) + side X Y (X (i + 2)) (Y (i + 2)) (i + 3 + m) := rfl
  have c := sm_cells (lo := i + 3) (k := m) (f := side X Y (X (i + 1)) (Y (i + 1))) (g := side X Y (X (i + 2)) (Y (i + 2)))
    (h := fun j => cr (X j - X (i + 1)) (Y j - Y (i + 1)) (X j - X (i + 2)) (Y j - Y (i + 2))) (fun j a b => cell (h.sep (i + 1) j (by omega) (by omega)))
  have p1 : X (i + 3 + m) = X i := by rw [show i + 3 + m = i + (m + 3) from by omega]; exact h.px i
  have p2 : Y (i + 3 + m) = Y i := by rw [show i + 3 + m = i + (m + 3) from by omega]; exact h.py i
  have p3 : X (i + 3 + m + 1) = X (i + 1) := by rw [show i + 3 + m + 1 = i + 1 + (m + 3) from by omega]; exact h.px _
  have p4 : Y (i + 3 + m + 1) = Y (i + 1) := by rw [show i + 3 + m + 1 = i + 1 + (m + 3) from by omega]; exact h.py _
  have t1 := trin (h.fwd i) (s := X i - X (i + 2)) (t := Y i - Y (i + 2)) (by omega) (by omega)
  have t2 := tri' (h.fwd (i + 1)) (s := X (i + 3) - X (i + 1)) (t := Y (i + 3) - Y (i + 1)) (by simp only [Nat.add_assoc, Nat.reduceAdd]; omega) (by simp only [Nat.add_assoc, Nat.reduceAdd]; omega)
  unfold side at e1 e2
  simp only [p1, p2, p3, p4] at e2 c
  simp only [Nat.add_assoc, Nat.reduceAdd] at e1 e2 c t1 t2
  rw [show -(X (i + 1) - X i) = X i - X (i + 1) from by omega, show -(Y (i + 1) - Y i) = Y i - Y (i + 1) from by omega, show -(X (i + 2) - X (i + 1)) = X (i + 1) - X (i + 2) from by omega, show -(Y (i + 2) - Y (i + 1)) = Y (i + 1) - Y (i + 2) from by omega] at t1 ⊢
  unfold side at c
  omega

/-- How often the polygon goes round what lies just to the left of side i + 1. -/
def wl (n : Nat) (X Y : Nat → Int) (i : Nat) : Int :=
  open_ n X Y (i + 1) + cr (-(X (i + 1) - X i)) (-(Y (i + 1) - Y i)) (-(X (i + 2) - X (i + 1))) (-(Y (i + 2) - Y (i + 1))) + 1 - L (X (i + 2) - X (i + 1)) (Y (i + 2) - Y (i + 1))

theorem wl_step {n : Nat} {X Y : Nat → Int} (h : Simple n X Y) (i : Nat) : wl n X Y (i + 1) = wl n X Y i := by
  have a := open_step h i
  have b := cr_neg (h.fwd (i + 1))
  unfold wl
  simp only [Nat.add_assoc, Nat.reduceAdd] at b ⊢
  omega
theorem wl_all {n : Nat} {X Y : Nat → Int} (h : Simple n X Y) (i : Nat) : wl n X Y i = wl n X Y 0 := by
  induction i with
  | zero => rfl
  | succ i ih => rw [wl_step h, ih]

/-- A corner from which no other one is low. -/
theorem lowest (X Y : Nat → Int) (k : Nat) : ∃ m, m ≤ k ∧ ∀ j, j ≤ k → ¬ low (X j - X m) (Y j - Y m) := by
  induction k with
  | zero => exact ⟨0, Nat.le_refl _, fun j hj => by obtain rfl : j = 0 := by omega
                                                    unfold low; omega⟩
  | succ k ih =>
    obtain ⟨m, hm, hl⟩ := ih
    by_cases c : low (X (k + 1) - X m) (Y (k + 1) - Y m)
    · refine ⟨k + 1, Nat.le_refl _, fun j hj => ?_⟩
      by_cases e : j = k + 1
      · subst e; unfold low; omega
      · have := hl j (by omega)
        unfold low at *; omega
    · refine ⟨m, by omega, fun j hj => ?_⟩
      by_cases e : j = k + 1
      · subst e; exact c
      · exact hl j (by omega)

theorem mod_eq {n : Nat} {X : Nat → Int} (px : ∀ i, X (i + n) = X i) (i k : Nat) : X (i + k * n) = X i := by
  induction k with
  | zero => simp
  | succ k ih => rw [Nat.succ_mul, ← Nat.add_assoc, px, ih]
theorem mod_eq' {n : Nat} {X : Nat → Int} (px : ∀ i, X (i + n) = X i) (i : Nat) : X i = X (i % n) := by
  have := mod_eq px (i % n) (i / n)
  rw [Nat.mul_comm, Nat.mod_add_div] at this
  exact this

theorem Simple.edge {n : Nat} {X Y : Nat → Int} (h : Simple n X Y) (i : Nat) : ¬ (X (i + 1) - X i = 0 ∧ Y (i + 1) - Y i = 0) := fun ⟨a, b⟩ => by
  obtain ⟨gx, gy, h1, _⟩ := h.fwd i
  rw [a, b] at h1; simp at h1

/-- The number is 1 or 0. -/
theorem wl_01 {n : Nat} {X Y : Nat → Int} (h : Simple n X Y) : wl n X Y 0 = 1 ∨ wl n X Y 0 = 0 := by
  have n3 := h.n3
  obtain ⟨m, hm, hl⟩ := lowest X Y (n - 1)
  have all : ∀ j, ¬ low (X j - X m) (Y j - Y m) := fun j => by
    rw [mod_eq' h.px j, mod_eq' h.py j]
    exact hl _ (by have := Nat.mod_lt j (show 0 < n by omega); omega)
  obtain ⟨i, hi⟩ : ∃ i, X (i + 1) = X m ∧ Y (i + 1) = Y m := ⟨m + (n - 1), by rw [show m + (n - 1) + 1 = m + n from by omega]; exact ⟨h.px m, h.py m⟩⟩
  rw [← wl_all h i]
  have all' : ∀ j, ¬ low (X j - X (i + 1)) (Y j - Y (i + 1)) := fun j => by rw [hi.1, hi.2]; exact all j
  have o : open_ n X Y (i + 1) = 0 := sm_zero (fun j _ _ => by unfold side cr; rw [if_neg (all' _), if_neg (all' _)])
  have l : L (X (i + 2) - X (i + 1)) (Y (i + 2) - Y (i + 1)) = 0 := by unfold L; rw [if_neg (all' _)]
  have ne := h.edge (i + 1)
  simp only [Nat.add_assoc, Nat.reduceAdd] at ne
  have lo2 : low (-(X (i + 2) - X (i + 1))) (-(Y (i + 2) - Y (i + 1))) := (low_neg ne).2 (all' _)
  have lo1 : ¬ low (-(X (i + 1) - X i)) (-(Y (i + 1) - Y i)) := by
    rw [show -(X (i + 1) - X i) = X i - X (i + 1) from by omega, show -(Y (i + 1) - Y i) = Y i - Y (i + 1) from by omega]; exact all' _
  unfold wl
  rw [o, l]
  unfold cr
  rw [if_neg lo1, if_pos lo2]
  split <;> omega

/-! ### A point on a side -/
theorem cr_zero {a b c d : Int} (h : cro a b c d = 0) : cr a b c d = 0 := by
  unfold cr; rw [h]; simp
theorem low_scale {k a b : Int} (hk : 0 < k) : low (k * a) (k * b) ↔ low a b := by
  unfold low
  have e1 : k * b < 0 ↔ b < 0 := by
    constructor
    · intro h; apply Classical.byContradiction; intro c
      have := Int.mul_nonneg (Int.le_of_lt hk) (show 0 ≤ b by omega); omega
    · intro h; have := Int.mul_pos hk (show 0 < -b by omega); rw [Int.mul_neg] at this; omega
  have e2 : k * b = 0 ↔ b = 0 := by
    constructor
    · intro h; rcases Int.mul_eq_zero.1 h with c | c <;> omega
    · rintro rfl; simp
  have e3 : 0 < k * a ↔ 0 < a := by
    constructor
    · intro h; exact pos_of_mul' h (Int.le_of_lt hk)
    · intro h; exact Int.mul_pos hk h
  rw [e1, e2, e3]
theorem cro_scale_r {k a b c d : Int} : cro a b (k * c) (k * d) = k * cro a b c d := by unfold cro; grind
theorem sign_scale {k x : Int} (hk : 0 < k) : (0 < k * x ↔ 0 < x) ∧ (k * x < 0 ↔ x < 0) := by
  constructor
  · constructor
    · intro h; exact pos_of_mul' h (Int.le_of_lt hk)
    · intro h; exact Int.mul_pos hk h
  · constructor
    · intro h; apply Classical.byContradiction; intro c
      have := Int.mul_nonneg (Int.le_of_lt hk) (show 0 ≤ x by omega); omega
    · intro h; have := Int.mul_pos hk (show 0 < -x by omega); rw [Int.mul_neg] at this; omega
theorem cr_scale_r {k a b c d : Int} (hk : 0 < k) : cr a b (k * c) (k * d) = cr a b c d := by
  unfold cr; rw [cro_scale_r]; simp only [low_scale hk, (sign_scale hk).1, (sign_scale hk).2]
theorem cr_scale_l {k a b c d : Int} (hk : 0 < k) : cr (k * a) (k * b) c d = cr a b c d := by
  rw [cr_swap c d, cr_scale_r hk, cr_swap]; omega
theorem cr_same_r {k m a b c d c' d' : Int} (hk : 0 < k) (hm : 0 < m) (h1 : k * c' = m * c) (h2 : k * d' = m * d) : cr a b c' d' = cr a b c d := by
  rw [← cr_scale_r hk, h1, h2, cr_scale_r hm]
theorem L_scale {k a b : Int} (hk : 0 < k) : L (k * a) (k * b) = L a b := by unfold L; simp only [low_scale hk]

/-- Seen from a point c inside side i + 1: all the other sides. -/
def rest (n : Nat) (X Y : Nat → Int) (i : Nat) (cx cy : Int) : Int := sm (i + 2) (n - 1) (side X Y cx cy)

/-- A functional that is positive from both ends of a side is so from a point between. -/
theorem mid_pos {al be gx gy ax ay bx b_y cx cy zx zy : Int} (ha : 0 < al) (hb : 0 < be) (hx : (al + be) * cx = al * ax + be * bx) (hy : (al + be) * cy = al * ay + be * b_y)
    (h1 : 0 < gx * (zx - ax) + gy * (zy - ay)) (h2 : 0 ≤ gx * (zx - bx) + gy * (zy - b_y)) : 0 < gx * (zx - cx) + gy * (zy - cy) := by
  have e : (al + be) * (gx * (zx - cx) + gy * (zy - cy)) = al * (gx * (zx - ax) + gy * (zy - ay)) + be * (gx * (zx - bx) + gy * (zy - b_y)) := by grind
  have p1 := Int.mul_pos ha h1
  have p2 := Int.mul_nonneg (Int.le_of_lt hb) h2
  exact pos_of_mul' (a := al + be) (by rw [e]; omega) (by omega)

theorem rest_eq {n : Nat} {X Y : Nat → Int} (h : Simple n X Y) {i : Nat} {al be cx cy : Int} (ha : 0 < al) (hb : 0 < be)
    (hx : (al + be) * cx = al * X (i + 1) + be * X (i + 2)) (hy : (al + be) * cy = al * Y (i + 1) + be * Y (i + 2)) :
    wl n X Y i = rest n X Y i cx cy + 1 - L (X (i + 2) - X (i + 1)) (Y (i + 2) - Y (i + 1)) := by
  obtain ⟨m, rfl⟩ : ∃ m, n = m + 3 := ⟨n - 3, by have := h.n3; omega⟩
  have e1 : open_ (m + 3) X Y (i + 1) = sm (i + 2) (m + 1) (side X Y (X (i + 1)) (Y (i + 1))) := rfl
  have e2 : rest (m + 3) X Y i cx cy = sm (i + 2) (m + 1) (side X Y cx cy) + side X Y cx cy (i + 2 + (m + 1)) := rfl
  have c := sm_cells (lo := i + 2) (k := m + 1) (f := side X Y (X (i + 1)) (Y (i + 1))) (g := side X Y cx cy)
    (h := fun j => cr (X j - X (i + 1)) (Y j - Y (i + 1)) (X j - cx) (Y j - cy)) (fun j a b => cell (by
      by_cases e : j = i + 2
      · subst e
        obtain ⟨gx, gy, g1, g2⟩ := h.fwd (i + 1)
        simp only [Nat.add_assoc, Nat.reduceAdd] at g1 g2 ⊢
        have s1 : gx * (X (i + 3) - X (i + 1)) + gy * (Y (i + 3) - Y (i + 1)) = (gx * (X (i + 2) - X (i + 1)) + gy * (Y (i + 2) - Y (i + 1))) + (gx * (X (i + 3) - X (i + 2)) + gy * (Y (i + 3) - Y (i + 2))) := by grind
        exact ⟨gx, gy, g1, by omega, mid_pos ha hb hx hy g1 (by simp), mid_pos ha hb hx hy (by omega) (by omega)⟩
      · obtain ⟨gx, gy, g1, g2, g3, g4⟩ := h.sep (i + 1) j (by omega) (by omega)
        simp only [Nat.add_assoc, Nat.reduceAdd] at g3 g4
        exact ⟨gx, gy, g1, g2, mid_pos ha hb hx hy g1 (Int.le_of_lt g3), mid_pos ha hb hx hy g2 (Int.le_of_lt g4)⟩))
  have p1 : X (i + 2 + (m + 1)) = X i := by rw [show i + 2 + (m + 1) = i + (m + 3) from by omega]; exact h.px i
  have p2 : Y (i + 2 + (m + 1)) = Y i := by rw [show i + 2 + (m + 1) = i + (m + 3) from by omega]; exact h.py i
  have p3 : X (i + 2 + (m + 1) + 1) = X (i + 1) := by rw [show i + 2 + (m + 1) + 1 = i + 1 + (m + 3) from by omega]; exact h.px _
  have p4 : Y (i + 2 + (m + 1) + 1) = Y (i + 1) := by rw [show i + 2 + (m + 1) + 1 = i + 1 + (m + 3) from by omega]; exact h.py _
  have s2 : side X Y cx cy (i + 2 + (m + 1)) = cr (X i - cx) (Y i - cy) (X (i + 1) - cx) (Y (i + 1) - cy) := by unfold side; rw [p1, p2, p3, p4]
  rw [s2] at e2
  simp only [p1, p2] at c
  have z : cr (X (i + 2) - X (i + 1)) (Y (i + 2) - Y (i + 1)) (X (i + 2) - cx) (Y (i + 2) - cy) = 0 := by
    apply cr_zero; unfold cro
    have : (al + be) * ((X (i + 2) - X (i + 1)) * (Y (i + 2) - cy) - (Y (i + 2) - Y (i + 1)) * (X (i + 2) - cx)) = 0 := by grind
    rcases Int.mul_eq_zero.1 this with q | q <;> omega
  have fw : Fwd (X i - X (i + 1)) (Y i - Y (i + 1)) (X (i + 1) - cx) (Y (i + 1) - cy) := by
    obtain ⟨gx, gy, g1, g2⟩ := (h.fwd i).neg
    refine ⟨gx, gy, by rw [show X i - X (i + 1) = -(X (i + 1) - X i) from by omega, show Y i - Y (i + 1) = -(Y (i + 1) - Y i) from by omega]; exact g1, ?_⟩
    have e : (al + be) * (gx * (X (i + 1) - cx) + gy * (Y (i + 1) - cy)) = be * (gx * -(X (i + 2) - X (i + 1)) + gy * -(Y (i + 2) - Y (i + 1))) := by grind
    exact pos_of_mul' (a := al + be) (by rw [e]; exact Int.mul_pos hb g2) (by omega)
  have t1 := tri' fw (s := X i - cx) (t := Y i - cy) (by omega) (by omega)
  have sc : cr (X i - X (i + 1)) (Y i - Y (i + 1)) (X (i + 1) - cx) (Y (i + 1) - cy) = cr (X i - X (i + 1)) (Y i - Y (i + 1)) (-(X (i + 2) - X (i + 1))) (-(Y (i + 2) - Y (i + 1))) :=
    cr_same_r (k := al + be) (m := be) (by omega) hb (by grind) (by grind)
  unfold wl
  rw [show -(X (i + 1) - X i) = X i - X (i + 1) from by omega, show -(Y (i + 1) - Y i) = Y i - Y (i + 1) from by omega, ← sc]
  omega

/-- How often the polygon goes round a point. -/
def wn (n : Nat) (X Y : Nat → Int) (x y : Int) : Int := sm 0 n (side X Y x y)
theorem side_period {n : Nat} {X Y : Nat → Int} (px : ∀ i, X (i + n) = X i) (py : ∀ i, Y (i + n) = Y i) (x y : Int) (i : Nat) : side X Y x y (i + n) = side X Y x y i := by
  unfold side; rw [show i + n + 1 = i + 1 + n from by omega, px, py, px, py]
theorem wn_from {n : Nat} {X Y : Nat → Int} (px : ∀ i, X (i + n) = X i) (py : ∀ i, Y (i + n) = Y i) (x y : Int) (lo : Nat) : wn n X Y x y = sm lo n (side X Y x y) :=
  (sm_period (side_period px py x y) lo).symm

/-- Nothing but side i + 1 comes between a point and a point c inside that side, to the east at the same height. -/
theorem wn_near {n : Nat} {X Y : Nat → Int} (h : Simple n X Y) {i : Nat} {al be cx qx qy : Int} (ha : 0 < al) (hb : 0 < be)
    (hx : (al + be) * cx = al * X (i + 1) + be * X (i + 2)) (hy : (al + be) * qy = al * Y (i + 1) + be * Y (i + 2)) (hq : qx < cx)
    (g1 : Y (i + 1) ≠ qy) (g2 : Y (i + 2) ≠ qy)
    (hs : ∀ j, i + 2 ≤ j → j < i + 1 + n → Sep qx qy cx qy (X j) (Y j) (X (j + 1)) (Y (j + 1))) :
    (Y (i + 1) < Y (i + 2) → wn n X Y qx qy = wl n X Y i) ∧ (Y (i + 2) < Y (i + 1) → wn n X Y qx qy = wl n X Y i - 1) := by
  have n3 := h.n3
  have e := rest_eq h ha hb hx hy
  obtain ⟨m, rfl⟩ : ∃ m, n = m + 1 := ⟨n - 1, by omega⟩
  have e1 : wn (m + 1) X Y qx qy = sm (i + 2) m (side X Y qx qy) + side X Y qx qy (i + 2 + m) := wn_from h.px h.py qx qy (i + 2)
  have e2 : rest (m + 1) X Y i cx qy = sm (i + 2) m (side X Y cx qy) := rfl
  have c := sm_cells (lo := i + 2) (k := m) (f := side X Y qx qy) (g := side X Y cx qy)
    (h := fun j => cr (X j - qx) (Y j - qy) (X j - cx) (Y j - qy)) (fun j a b => cell (hs j a (by omega)))
  have p1 : X (i + 2 + m) = X (i + 1) := by rw [show i + 2 + m = i + 1 + (m + 1) from by omega]; exact h.px _
  have p2 : Y (i + 2 + m) = Y (i + 1) := by rw [show i + 2 + m = i + 1 + (m + 1) from by omega]; exact h.py _
  have p3 : X (i + 2 + m + 1) = X (i + 2) := by rw [show i + 2 + m + 1 = i + 2 + (m + 1) from by omega]; exact h.px _
  have p4 : Y (i + 2 + m + 1) = Y (i + 2) := by rw [show i + 2 + m + 1 = i + 2 + (m + 1) from by omega]; exact h.py _
  simp only [p1, p2] at c
  have z : ∀ u v w : Int, w ≠ 0 → cr u w v w = 0 := by
    intro u v w hw
    have : low u w ↔ low v w := by unfold low; omega
    unfold cr; simp only [this]
    split <;> rfl
  rw [z _ _ _ (by omega), z _ _ _ (by omega)] at c
  have s : side X Y qx qy (i + 2 + m) = cr (X (i + 1) - qx) (Y (i + 1) - qy) (X (i + 2) - qx) (Y (i + 2) - qy) := by unfold side; rw [p1, p2, p3, p4]
  rw [s] at e1
  -- the sign of the cross product
  have k : (al + be) * cro (X (i + 1) - qx) (Y (i + 1) - qy) (X (i + 2) - qx) (Y (i + 2) - qy) = (al + be) * ((cx - qx) * (Y (i + 2) - Y (i + 1))) := by unfold cro; grind
  have k' : cro (X (i + 1) - qx) (Y (i + 1) - qy) (X (i + 2) - qx) (Y (i + 2) - qy) = (cx - qx) * (Y (i + 2) - Y (i + 1)) := by
    rcases Int.mul_eq_mul_left_iff (show al + be ≠ 0 by omega) |>.1 k with q
    exact q
  constructor
  · intro up
    have b1 : Y (i + 1) < qy ∧ qy < Y (i + 2) := by
      constructor
      · apply Classical.byContradiction; intro c
        have := Int.mul_pos hb (show 0 < Y (i + 2) - qy by omega)
        have := Int.mul_nonneg (Int.le_of_lt ha) (show 0 ≤ Y (i + 1) - qy by omega)
        grind
      · apply Classical.byContradiction; intro c
        have := Int.mul_pos ha (show 0 < qy - Y (i + 1) by omega)
        have := Int.mul_nonneg (Int.le_of_lt hb) (show 0 ≤ qy - Y (i + 2) by omega)
        grind
    have v : cr (X (i + 1) - qx) (Y (i + 1) - qy) (X (i + 2) - qx) (Y (i + 2) - qy) = 1 := by
      unfold cr
      rw [if_pos (by unfold low; omega), if_neg (by unfold low; omega), if_pos]
      rw [k']; exact Int.mul_pos (by omega) (by omega)
    have l : L (X (i + 2) - X (i + 1)) (Y (i + 2) - Y (i + 1)) = 0 := by unfold L; rw [if_neg (by unfold low; omega)]
    omega
  · intro dn
    have b1 : Y (i + 2) < qy ∧ qy < Y (i + 1) := by
      constructor
      · apply Classical.byContradiction; intro c
        have := Int.mul_pos ha (show 0 < Y (i + 1) - qy by omega)
        have := Int.mul_nonneg (Int.le_of_lt hb) (show 0 ≤ Y (i + 2) - qy by omega)
        grind
      · apply Classical.byContradiction; intro c
        have := Int.mul_pos hb (show 0 < qy - Y (i + 2) by omega)
        have := Int.mul_nonneg (Int.le_of_lt ha) (show 0 ≤ qy - Y (i + 1) by omega)
        grind
    have v : cr (X (i + 1) - qx) (Y (i + 1) - qy) (X (i + 2) - qx) (Y (i + 2) - qy) = -1 := by
      unfold cr
      rw [if_neg (by unfold low; omega), if_pos (by unfold low; omega), if_pos]
      rw [k']
      have := Int.mul_pos (show 0 < cx - qx by omega) (show 0 < Y (i + 1) - Y (i + 2) by omega)
      have e3 : (cx - qx) * (Y (i + 1) - Y (i + 2)) = - ((cx - qx) * (Y (i + 2) - Y (i + 1))) := by rw [← Int.mul_neg]; congr 1; omega
      omega
    have l : L (X (i + 2) - X (i + 1)) (Y (i + 2) - Y (i + 1)) = 1 := by unfold L; rw [if_pos (by unfold low; omega)]
    omega

end Go.Proofs.Ytgdhgncdpmalcaa.Geo
