/- Functions of the translation as plain Lean functions, each with a proof that the Go code comes to its answers; written by a program of the prover's (a changed copy of the kit's printer). -/
import Derived.Test.YtimhiijedmfeaaaQ0
import Derived.Test.YtimhiijedmfeaaaQ23
namespace Go.Proofs.Ytimhiijedmfeaaa.Q
open Go.RowKit Go.Proofs.YtimhiijedmfeaaaW.PrintWords Go.Proofs.YtimhiijedmfeaaaW.PrintLast Go.Proofs.YtimhiijedmfeaaaW.PrintMore
attribute [local go_sem] max2_int min2_int max_two min_two max_three min_three max_four min_four   -- for this text's walks alone
set_option linter.unusedVariables false
set_option linter.unusedSimpArgs false

/-! ### spec_NetMatrix: function 30 -/
mutual
def spec_NetMatrix.l0 : Nat → Int → List (S62) → List (List Int) → Int → Option ((List (List Int)) × Bool)
  | 0, _, _, _, _ => none
  | k + 1, x0, x1, x6, x7 => if x7 < x0 then (if 0 ≤ (wrap64 (x0 - 1)) then (if (wrap64 (x0 - 1) : Int).toNat ≤ 35184372088832 then (if x6.length < 5864062014805 then (spec_NetMatrix.l0 k x0 x1 (x6 ++ [(List.replicate (wrap64 (x0 - 1) : Int).toNat 0)]) (wrap64 (x7 + 1))) else (none)) else (none)) else (none)) else (spec_NetMatrix.l1 k x1 x6 0)
def spec_NetMatrix.l1 : Nat → List (S62) → List (List Int) → Int → Option ((List (List Int)) × Bool)
  | 0, _, _, _ => none
  | k + 1, x1, x6, x8 => if x8 < (x1.length : Int) then (if 0 ≤ x8 then (if (wrap64 (((rd_T62 x1 x8).f0) - 1)) ≥ 0 then (if 0 ≤ (wrap64 (((rd_T62 x1 x8).f0) - 1)) then (if (wrap64 (((rd_T62 x1 x8).f0) - 1)) < (x6.length : Int) then (if (wrap64 (((rd_T62 x1 x8).f0) - 1)) < ((rd_L1 x6 (wrap64 (((rd_T62 x1 x8).f0) - 1))).length : Int) then (spec_NetMatrix.j2 k x1 (x6.set ((wrap64 (((rd_T62 x1 x8).f0) - 1)) : Int).toNat ((rd_L1 x6 (wrap64 (((rd_T62 x1 x8).f0) - 1))).set ((wrap64 (((rd_T62 x1 x8).f0) - 1)) : Int).toNat (wrap64 ((rd (rd_L1 x6 (wrap64 (((rd_T62 x1 x8).f0) - 1))) (wrap64 (((rd_T62 x1 x8).f0) - 1))) + ((rd_T62 x1 x8).f3))))) x8 (wrap64 (((rd_T62 x1 x8).f0) - 1)) (wrap64 (((rd_T62 x1 x8).f1) - 1)) ((rd_T62 x1 x8).f3)) else (none)) else (none)) else (none)) else (spec_NetMatrix.j2 k x1 x6 x8 (wrap64 (((rd_T62 x1 x8).f0) - 1)) (wrap64 (((rd_T62 x1 x8).f1) - 1)) ((rd_T62 x1 x8).f3))) else (none)) else (some (x6, true))
def spec_NetMatrix.j2 : Nat → List (S62) → List (List Int) → Int → Int → Int → Int → Option ((List (List Int)) × Bool)
  | 0, _, _, _, _, _, _ => none
  | k + 1, x1, x6, x8, x9, x10, x11 => if x10 ≥ 0 then (if 0 ≤ x10 then (if x10 < (x6.length : Int) then (if x10 < ((rd_L1 x6 x10).length : Int) then ((some (x6.set (x10 : Int).toNat ((rd_L1 x6 x10).set (x10 : Int).toNat (wrap64 ((rd (rd_L1 x6 x10) x10) + x11))) : List (List Int))).bind fun y383 => (if x9 ≥ 0 then (if 0 ≤ x9 then (if x9 < (x6.length : Int) then (if x10 < ((rd_L1 y383 x9).length : Int) then ((some (y383.set (x9 : Int).toNat ((rd_L1 y383 x9).set (x10 : Int).toNat (wrap64 ((rd (rd_L1 y383 x9) x10) - x11))) : List (List Int))).bind fun y389 => (if x9 < ((rd_L1 y389 x10).length : Int) then (spec_NetMatrix.l1 k x1 (y389.set (x10 : Int).toNat ((rd_L1 y389 x10).set (x9 : Int).toNat (wrap64 ((rd (rd_L1 y389 x10) x9) - x11)))) (wrap64 (x8 + 1))) else (none))) else (none)) else (none)) else (none)) else (spec_NetMatrix.l1 k x1 y383 (wrap64 (x8 + 1))))) else (none)) else (none)) else (none)) else (if x9 ≥ 0 then (spec_NetMatrix.l1 k x1 x6 (wrap64 (x8 + 1))) else (spec_NetMatrix.l1 k x1 x6 (wrap64 (x8 + 1))))
end
def spec_NetMatrix.f (k : Nat) (a0 : Int) (l1 : List (S62)) : Option ((List (List Int)) × Bool) := (some (([] : List (List Int)) : List (List Int))).bind fun y359 => ((spec_NetValid.f k a0 l1).bind fun t362 => (if t362 = true then (spec_NetMatrix.l0 k a0 l1 y359 1) else (some (y359, false))))
theorem spec_NetMatrix.mono_l : ∀ k, (∀ y0 y1 y2 y3, LeO (spec_NetMatrix.l0 k y0 y1 y2 y3) (spec_NetMatrix.l0 (k + 1) y0 y1 y2 y3)) ∧ (∀ y0 y1 y2, LeO (spec_NetMatrix.l1 k y0 y1 y2) (spec_NetMatrix.l1 (k + 1) y0 y1 y2)) ∧ (∀ y0 y1 y2 y3 y4 y5, LeO (spec_NetMatrix.j2 k y0 y1 y2 y3 y4 y5) (spec_NetMatrix.j2 (k + 1) y0 y1 y2 y3 y4 y5))
  | 0 => ⟨fun _ _ _ _ r h => by simp [spec_NetMatrix.l0] at h, fun _ _ _ r h => by simp [spec_NetMatrix.l1] at h, fun _ _ _ _ _ _ r h => by simp [spec_NetMatrix.j2] at h⟩
  | k + 1 => by
    obtain ⟨ih0, ih1, ih2⟩ := spec_NetMatrix.mono_l k
    refine ⟨?_, ?_, ?_⟩
    · intro y0 y1 y2 y3
      unfold spec_NetMatrix.l0
      repeat' first
      | (with_reducible exact ih0 _ _ _ _)
      | (with_reducible exact ih1 _ _ _)
      | (with_reducible exact ih2 _ _ _ _ _ _)
      | (with_reducible exact spec_NetValid.mono _ _ _)
      | (with_reducible exact LeO.refl _)
      | (with_reducible exact LeO.none _)
      | (with_reducible refine LeO.ite ?_ ?_)
      | (with_reducible refine LeO.bind ?_ (fun _ => ?_))
      | exact ih0 _ _ _ _
      | exact ih1 _ _ _
      | exact ih2 _ _ _ _ _ _
      | exact spec_NetValid.mono _ _ _
      | exact LeO.none _
      | refine LeO.ite ?_ ?_
      | refine LeO.bind ?_ (fun _ => ?_)
    · intro y0 y1 y2
      unfold spec_NetMatrix.l1
      repeat' first
      | (with_reducible exact ih0 _ _ _ _)
      | (with_reducible exact ih1 _ _ _)
      | (with_reducible exact ih2 _ _ _ _ _ _)
      | (with_reducible exact spec_NetValid.mono _ _ _)
      | (with_reducible exact LeO.refl _)
      | (with_reducible exact LeO.none _)
      | (with_reducible refine LeO.ite ?_ ?_)
      | (with_reducible refine LeO.bind ?_ (fun _ => ?_))
      | exact ih0 _ _ _ _
      | exact ih1 _ _ _
      | exact ih2 _ _ _ _ _ _
      | exact spec_NetValid.mono _ _ _
      | exact LeO.none _
      | refine LeO.ite ?_ ?_
      | refine LeO.bind ?_ (fun _ => ?_)
    · intro y0 y1 y2 y3 y4 y5
      unfold spec_NetMatrix.j2
      repeat' first
      | (with_reducible exact ih0 _ _ _ _)
      | (with_reducible exact ih1 _ _ _)
      | (with_reducible exact ih2 _ _ _ _ _ _)
      | (with_reducible exact spec_NetValid.mono _ _ _)
      | (with_reducible exact LeO.refl _)
      | (with_reducible exact LeO.none _)
      | (with_reducible refine LeO.ite ?_ ?_)
      | (with_reducible refine LeO.bind ?_ (fun _ => ?_))
      | exact ih0 _ _ _ _
      | exact ih1 _ _ _
      | exact ih2 _ _ _ _ _ _
      | exact spec_NetValid.mono _ _ _
      | exact LeO.none _
      | refine LeO.ite ?_ ?_
      | refine LeO.bind ?_ (fun _ => ?_)
theorem spec_NetMatrix.mono : ∀ a0 a1 k, LeO (spec_NetMatrix.f k a0 a1) (spec_NetMatrix.f (k + 1) a0 a1) := by
  intro a0 a1 k
  obtain ⟨ih0, ih1, ih2⟩ := spec_NetMatrix.mono_l k
  unfold spec_NetMatrix.f
  repeat' first
      | (with_reducible exact ih0 _ _ _ _)
      | (with_reducible exact ih1 _ _ _)
      | (with_reducible exact ih2 _ _ _ _ _ _)
      | (with_reducible exact spec_NetValid.mono _ _ _)
      | (with_reducible exact LeO.refl _)
      | (with_reducible exact LeO.none _)
      | (with_reducible refine LeO.ite ?_ ?_)
      | (with_reducible refine LeO.bind ?_ (fun _ => ?_))
      | exact ih0 _ _ _ _
      | exact ih1 _ _ _
      | exact ih2 _ _ _ _ _ _
      | exact spec_NetValid.mono _ _ _
      | exact LeO.none _
      | refine LeO.ite ?_ ?_
      | refine LeO.bind ?_ (fun _ => ?_)
def spec_NetMatrix.T15 : Bool × List (List Nat × List Nat) := (true, [([], []), ([], []), ([0, 1], [0, 1]), ([2], [2]), ([], []), ([], []), ([], []), ([5, 6], [5, 6]), ([7], [7]), ([], []), ([8, 9], [8, 9]), ([10], [10]), ([], []), ([11, 12], [11, 12]), ([3, 4, 0, 1, 2, 3, 4, 5, 6, 7, 8, 9, 10, 11, 12, 13], [3, 4]), ([14, 13, 0, 1, 2, 3, 4, 5, 6, 7, 8, 9, 10, 11, 12, 13], [13, 14])])
def spec_NetMatrix.B15 : List Nat := [0, 0, 3, 7, 0, 0, 0, 96, 224, 0, 992, 2016, 0, 8160, 16383, 32767]
theorem spec_NetMatrix.tab15 : rtab .any (opsOf Try.f30 15) = spec_NetMatrix.T15 := by kernel_rfl
theorem spec_NetMatrix.bits15 : waitsOk spec_NetMatrix.T15.2 spec_NetMatrix.B15 = true := by kernel_rfl
def spec_NetMatrix.T17 : Bool × List (List Nat × List Nat) := (true, [([], []), ([], []), ([0, 1], [0, 1]), ([2], [2]), ([], []), ([], []), ([], []), ([5, 6], [5, 6]), ([7], [7]), ([], []), ([8, 9], [8, 9]), ([10], [10]), ([], []), ([11, 12], [11, 12]), ([3, 4, 0, 1, 2, 3, 4, 5, 6, 7, 8, 9, 10, 11, 12, 13], [3, 4]), ([14, 13, 0, 1, 2, 3, 4, 5, 6, 7, 8, 9, 10, 11, 12, 13], [13, 14])])
def spec_NetMatrix.B17 : List Nat := [0, 0, 3, 7, 0, 0, 0, 96, 224, 0, 992, 2016, 0, 8160, 16383, 32767]
theorem spec_NetMatrix.tab17 : rtab .any (opsOf Try.f30 17) = spec_NetMatrix.T17 := by kernel_rfl
theorem spec_NetMatrix.bits17 : waitsOk spec_NetMatrix.T17.2 spec_NetMatrix.B17 = true := by kernel_rfl
def spec_NetMatrix.T19 : Bool × List (List Nat × List Nat) := (true, [([], []), ([], []), ([0, 1], [0, 1]), ([2], [2]), ([], []), ([], []), ([], []), ([5, 6], [5, 6]), ([7], [7]), ([], []), ([8, 9], [8, 9]), ([10], [10]), ([], []), ([11, 12], [11, 12]), ([3, 4, 0, 1, 2, 3, 4, 5, 6, 7, 8, 9, 10, 11, 12, 13], [3, 4]), ([14, 13, 0, 1, 2, 3, 4, 5, 6, 7, 8, 9, 10, 11, 12, 13], [13, 14])])
def spec_NetMatrix.B19 : List Nat := [0, 0, 3, 7, 0, 0, 0, 96, 224, 0, 992, 2016, 0, 8160, 16383, 32767]
theorem spec_NetMatrix.tab19 : rtab .any (opsOf Try.f30 19) = spec_NetMatrix.T19 := by kernel_rfl
theorem spec_NetMatrix.bits19 : waitsOk spec_NetMatrix.T19.2 spec_NetMatrix.B19 = true := by kernel_rfl
def spec_NetMatrix.T20 : Bool × List (List Nat × List Nat) := (true, [([], []), ([], []), ([0, 1], [0, 1]), ([2], [2]), ([], []), ([], []), ([], []), ([5, 6], [5, 6]), ([7], [7]), ([], []), ([8, 9], [8, 9]), ([10], [10]), ([], []), ([11, 12], [11, 12]), ([3, 4, 0, 1, 2, 3, 4, 5, 6, 7, 8, 9, 10, 11, 12, 13], [3, 4]), ([14, 13, 0, 1, 2, 3, 4, 5, 6, 7, 8, 9, 10, 11, 12, 13], [13, 14])])
def spec_NetMatrix.B20 : List Nat := [0, 0, 3, 7, 0, 0, 0, 96, 224, 0, 992, 2016, 0, 8160, 16383, 32767]
theorem spec_NetMatrix.tab20 : rtab .any (opsOf Try.f30 20) = spec_NetMatrix.T20 := by kernel_rfl
theorem spec_NetMatrix.bits20 : waitsOk spec_NetMatrix.T20.2 spec_NetMatrix.B20 = true := by kernel_rfl
set_option maxHeartbeats 8000000 in
set_option maxRecDepth 100000 in
theorem spec_NetMatrix.calls (k : Nat) (a0 : Int) (A1 : Option Addr) (c1 : Nat) (l1 : List (S62)) (r1 : List (List Int)) (r2 : Bool) (w : World) (hr1 : Kd.C k62 w A1 l1.length l1) (hc1 : l1.length ≤ c1) (h : spec_NetMatrix.f k a0 l1 = some (r1, r2)) :
    Calls Try.prog 30 #[.int .i64 a0, .slice A1 l1.length c1] w fun e w' => ∃ v0_ : Value, e = .returned (.tuple #[v0_, .bool r2]) ∧ Kd.S (Kd.slice 3 (Kd.int .i64)) 27 w' w.heap.size (fun _ => True) v0_ r1 ∧ Below w.heap.size w w' := by
  have HR1 := Aside0.mk hr1
  have HC1 := Aside0.mk hc1
  clear hr1 hc1
  have HB := Aside0.mk (Below.refl w.heap.size w)
  have H : ((some (([] : List (List Int)) : List (List Int))).bind fun y359 => ((spec_NetValid.f k a0 l1).bind fun t362 => (if t362 = true then (spec_NetMatrix.l0 k a0 l1 y359 1) else (some (y359, false))))) = some (r1, r2) := h
  clear h
  obtain ⟨y359, hy359⟩ : ∃ y_ : List (List Int), y_ = (([] : List (List Int))) := ⟨_, rfl⟩
  replace H : ((spec_NetValid.f k a0 l1).bind fun t362 => (if t362 = true then (spec_NetMatrix.l0 k a0 l1 y359 1) else (some (y359, false)))) = some (r1, r2) := by first | (rw [hy359]; with_reducible exact H) | (have H2_ := (Option.bind_some _ _).symm.trans H; rw [hy359]; with_reducible exact H2_) | (have H2_ := (Option.bind_some _ _).symm.trans H; with_reducible exact H2_) | with_reducible exact H | (rw [hy359]; exact H) | exact H
  have Ny359 := Aside0.mk hy359
  clear hy359
  replace H := Option.bind_eq_some_iff.mp H
  obtain ⟨t362, A30, H⟩ := H
  replace H : (if t362 = true then (spec_NetMatrix.l0 k a0 l1 y359 1) else (some (y359, false))) = some (r1, r2) := H
  have A3 := Aside0.mk A30
  clear A30
  by_cases c4 : t362 = true
  · subst c4
    have H1 : (spec_NetMatrix.l0 k a0 l1 y359 1) = some (r1, r2) := by rw [if_pos rfl] at H; exact H
    clear H
    have H := H1
    clear H1
    have H' := Aside0.mk H
    clear H
    go_enter Try.func30, Try.ntmps30
    go_wp2_with (first | ((with_reducible refine gate_dst (N := 12) rfl ?_); refine Kd.S_lit (Kd.slice 3 (Kd.int .i64)) _ 27 ?hg (N := 12) ?hd (xs := ([] : List (List Int))) (inner := []) (ok := fun _ => True) (okp := fun _ => True) ?hr ?hp (fun _ hk => hk) trivial (Below.refl _ _) (Nat.le_refl _) (by simp) ?_; (case hd => rfl); (case hg => rfl); (case hr => first | (go_simp; done) | (go_simp; rfl)); (case hp => exact (Reps.none _ _)); intro v360 w5 ho6 hb hg_ hnew_; clear hg_ hnew_; (first | rw [← Ny359.out] at ho6 | (simp only [Int.reduceToNat] at ho6; rw [← Ny359.out] at ho6)); have n0_ := Aside0.mk (Kd.S_lower ho6 (below_size (by repeat (first | (with_reducible first | exact HB.out | apply below_alloc | apply pw_below_drewN | apply below_drew1) | exact HB.out)))); have n1_ := Aside0.mk (below_step (by repeat (first | (with_reducible first | exact HB.out | apply below_alloc | apply pw_below_drewN | apply below_drew1) | exact HB.out)) hb); clear HB; have HO361 := n0_; have HB := n1_; clear n0_ n1_; clear hb ho6) | ((with_reducible refine gate_callee (f := 46) rfl ?_); refine goesL_ (some 15) rfl rfl Try.func46 (by kernel_rfl) rfl #[.int .i64 a0, .slice A1 l1.length c1] rfl (by (try simp only [List.map_toArray, List.map_cons, List.map_nil]); first | done | rfl | (simp only [List.length_drop, List.length_take]; rfl)) ?_; (with_reducible refine (spec_NetValid.calls k a0 _ _ l1 true _ ?side1 ?side2 A3.out).mono ?_); (case side1 => repeat (first | exact (Kd.C_below HR1.out HB.out) | (with_reducible refine Kd.C_alloc ?_ _) | (with_reducible refine Kd.C_drewN ?_ _) | (with_reducible refine Kd.C_drew ?_))); (case side2 => exact HC1.out); rintro e w7 ⟨rfl, hb⟩; refine ⟨_, rfl, ?_⟩; have n0_ := Aside0.mk (Kd.S_below (by (with_reducible repeat (first | apply Kd.S_alloc | apply Kd.S_drewN | apply Kd.S_drew)); exact HO361.out) hb); have n1_ := Aside0.mk (below_step (by repeat (first | (with_reducible first | exact HB.out | apply below_alloc | apply pw_below_drewN | apply below_drew1) | exact HB.out)) hb); clear HO361; clear HB; have HO361 := n0_; have HB := n1_; clear n0_ n1_; (try clear hb); (try clear hb2); (try clear hk); (try clear hi)))
    go_loopg [6, 7] k (fun kq v6 v7 w' => ∃ (x6_1 : List (List Int)) (x7_1 : Int), v7 = .int .i64 x7_1 ∧ Aside0 (spec_NetMatrix.l0 kq a0 l1 x6_1 x7_1 = some (r1, r2)) ∧ Aside0 (kq ≤ k) ∧ Aside0 (Kd.S (Kd.slice 3 (Kd.int .i64)) 27 w' w.heap.size (fun _ => True) v6 x6_1) ∧ Aside0 (Below w.heap.size w w'))
    case atStart => exact ⟨(y359), (1), (by first | rfl | (simp; done) | (simp [*]; done)), H', ⟨Nat.le_refl _⟩, ⟨by (with_reducible repeat (first | apply Kd.S_alloc | apply Kd.S_drewN | apply Kd.S_drew)); exact HO361.out⟩, ⟨by repeat (first | (with_reducible first | exact HB.out | apply below_alloc | apply pw_below_drewN | apply below_drew1) | exact HB.out)⟩⟩
    case round =>
      clear H'
      try clear c1
      try clear p2
      try clear c3
      try clear c4
      obtain ⟨x6_1, x7_1, rfl, HA, HK1, HO_6, HB⟩ := hrel
      cases gk with
      | zero => exact absurd HA.out (by simp [spec_NetMatrix.l0])
      | succ k1 =>
        have H := HA.out
        clear HA
        simp only [spec_NetMatrix.l0] at H
        by_cases c8 : x7_1 < a0
        · rw [if_pos c8] at H
          have c8b0 : decide (x7_1 < a0) = true := decide_eq_true c8
          clear c8
          obtain ⟨ji9, hji9⟩ : ∃ j_ : Int, (wrap64 (a0 - 1)) = j_ := ⟨_, rfl⟩
          replace H : (if 0 ≤ (ji9) then (if (ji9 : Int).toNat ≤ 35184372088832 then (if x6_1.length < 5864062014805 then (spec_NetMatrix.l0 k1 a0 l1 (x6_1 ++ [(List.replicate (ji9 : Int).toNat 0)]) (wrap64 (x7_1 + 1))) else (none)) else (none)) else (none)) = some (r1, r2) := by first | (rw [hji9] at H; exact H) | (simp only [hji9] at H ⊢; exact H)
          have hji9w : (IntKind.i64.wrap (a0 - 1)) = ji9 := (i64_w _).trans hji9
          by_cases c10 : 0 ≤ (ji9)
          · rw [if_pos c10] at H
            have c10b0 := eq_true c10
            have c10b1 : decide (0 ≤ (ji9)) = true := decide_eq_true c10
            clear c10
            by_cases c11 : (ji9 : Int).toNat ≤ 35184372088832
            · rw [if_pos c11] at H
              have c11b0 := eq_true c11
              have c11b1 : decide ((ji9 : Int).toNat ≤ 35184372088832) = true := decide_eq_true c11
              clear c11
              obtain ⟨y363, hy363⟩ : ∃ y_ : List Int, y_ = (List.replicate (ji9 : Int).toNat 0) := ⟨_, rfl⟩
              replace H : (if x6_1.length < 5864062014805 then (spec_NetMatrix.l0 k1 a0 l1 (x6_1 ++ [y363]) (wrap64 (x7_1 + 1))) else (none)) = some (r1, r2) := by first | (rw [hy363]; with_reducible exact H) | (have H2_ := (Option.bind_some _ _).symm.trans H; rw [hy363]; with_reducible exact H2_) | (have H2_ := (Option.bind_some _ _).symm.trans H; with_reducible exact H2_) | with_reducible exact H | (rw [hy363]; exact H) | exact H
              have Ny363 := Aside0.mk hy363
              clear hy363
              by_cases c12 : x6_1.length < 5864062014805
              · rw [if_pos c12] at H
                have LMc12 := Aside0.mk c12
                clear c12
                obtain ⟨y366, hy366⟩ : ∃ y_ : List (List Int), y_ = (x6_1 ++ [y363]) := ⟨_, rfl⟩
                replace H : (spec_NetMatrix.l0 k1 a0 l1 y366 (wrap64 (x7_1 + 1))) = some (r1, r2) := by first | (rw [hy366]; with_reducible exact H) | (have H2_ := (Option.bind_some _ _).symm.trans H; rw [hy366]; with_reducible exact H2_) | (have H2_ := (Option.bind_some _ _).symm.trans H; with_reducible exact H2_) | with_reducible exact H | (rw [hy366]; exact H) | exact H
                have Ny366 := Aside0.mk hy366
                clear hy366
                have H' := Aside0.mk H
                clear H
                go_wp2_with (first | ((with_reducible refine gate_dst (N := 26) rfl ?_); refine Kd.R_make (Kd.int .i64) _ 3 rfl (N := 26) rfl 27 _ _ rfl ji9 rfl rfl Try.underlying27 (.int .i64 0) 8 info3 rfl (by decide) (by omega) 0 (ok := fun _ => True) (okp := fun _ => True) rfl (fun _ hk => hk) trivial (of_decide_eq_true (by first | (with_reducible assumption) | assumption)) (Nat.le_trans (Nat.mul_le_mul_right _ (of_decide_eq_true (by first | (with_reducible assumption) | assumption) : ji9.toNat ≤ 35184372088832)) (by omega)) (Below.refl _ _) (Nat.le_refl _) ?_; intro v364 w13 ho14 hb hg_ hnew_; clear hg_ hnew_; (first | rw [← Ny363.out] at ho14 | (simp only [Int.reduceToNat] at ho14; rw [← Ny363.out] at ho14)); have n0_ := Aside0.mk (Kd.S_elder' (by (with_reducible repeat (first | apply Kd.S_alloc | apply Kd.S_drewN | apply Kd.S_drew)); exact HO_6.out) (Kd.R_base ho14) hb); have n1_ := Aside0.mk (Kd.R_lower ho14 (below_size (by repeat (first | (with_reducible first | exact HB.out | apply below_alloc | apply pw_below_drewN | apply below_drew1) | exact HB.out)))); have n2_ := Aside0.mk (below_step (by repeat (first | (with_reducible first | exact HB.out | apply below_alloc | apply pw_below_drewN | apply below_drew1) | exact HB.out)) hb); clear HO_6; clear HB; have HO_6 := n0_; have HO365 := n1_; have HB := n2_; clear n0_ n1_ n2_; clear hb ho14; obtain ⟨Ao16, co16, eo16⟩ := Kd.R_slice HO365.out; subst eo16) | ((with_reducible refine gate_builtin (b := .append) (xs := #[.tmp 23, .tmp 27]) rfl ?_); at_builtin; refine Kd.S_append (Kd.slice 3 (Kd.int .i64)) (w0 := w) w.heap.size rfl (.tmp 23) (.tmp 27) 22 27 (.slice none 0 0) 24 rfl Try.underlying22 info27 rfl (by decide) (by omega) u6 x6_1 y363 [.slice Ao16 y363.length co16] (fun _ => True) (fun k_ => some k_ = (.slice Ao16 y363.length co16 : Value).ownBlock) rfl rfl ?aP (fun k_ hk_ => ((Kd.R_mono (ok' := fun k_ => ((fun _ => True)) k_ ∧ some k_ ≠ (u6 : Value).ownBlock) (Kd.R_apart' (HO365.out) (Kd.S_typed HO_6.out) (by decide)) (fun k_ hk => ⟨trivial, hk.2⟩))).1 k_ hk_.symm) ?aF ?aO ?aB ?aS ?aL ?_; (case aP => exact Kd.M_row (Kd.R_mono (Kd.R_tight rfl (Kd.R_mono (ok' := fun k_ => ((fun _ => True)) k_ ∧ some k_ ≠ (u6 : Value).ownBlock) (Kd.R_apart' (HO365.out) (Kd.S_typed HO_6.out) (by decide)) (fun k_ hk => ⟨trivial, hk.2⟩))) (fun _ h_ => h_))); (case aB => exact (by repeat (first | (with_reducible first | exact HB.out | apply below_alloc | apply pw_below_drewN | apply below_drew1) | exact HB.out))); (case aF => exact (fun _ _ => trivial)); (case aO => exact (by (with_reducible repeat (first | apply Kd.S_alloc | apply Kd.S_drewN | apply Kd.S_drew)); exact Kd.S_mono HO_6.out (fun k_ hk => ⟨trivial, fun e_ => hk.2 e_⟩))); (case aS => exact (below_size (by repeat (first | (with_reducible first | exact HB.out | apply below_alloc | apply pw_below_drewN | apply below_drew1) | exact HB.out)))); (case aL => have := LMc12.out; omega); intro v367 w15 ho hb hg hat; rw [← Ny366.out] at ho; have n0_ := Aside0.mk (hb); have n1_ := Aside0.mk (ho); clear HB; clear HO_6; clear HO365; have HB := n0_; have HO368 := n1_; clear n0_ n1_; clear ho hb hg hat))
                go_roundg k1
                case measure => have := HK1.out; omega
                case rel => exact ⟨(y366), (wrap64 (x7_1 + 1)), (by first | rfl | (simp; done) | (simp [*]; done)), H', ⟨by have := HK1.out; omega⟩, ⟨by (with_reducible repeat (first | apply Kd.S_alloc | apply Kd.S_drewN | apply Kd.S_drew)); exact HO368.out⟩, ⟨by repeat (first | (with_reducible first | exact HB.out | apply below_alloc | apply pw_below_drewN | apply below_drew1) | exact HB.out)⟩⟩
              · rw [if_neg c12] at H
                exact absurd H (by simp)
            · rw [if_neg c11] at H
              exact absurd H (by simp)
          · rw [if_neg c10] at H
            exact absurd H (by simp)
        · rw [if_neg c8] at H
          have c8b0 : decide (x7_1 < a0) = false := decide_eq_false c8
          clear c8
          have H' := Aside0.mk H
          clear H
          go_wp2
          go_loopg [8] k1 (fun kq v8 w' => ∃ (x6_2 : List (List Int)) (x8_2 : Int), v8 = .int .i64 x8_2 ∧ Aside0 (spec_NetMatrix.l1 kq l1 x6_2 x8_2 = some (r1, r2)) ∧ Aside0 (kq ≤ k1) ∧ Aside0 (Kd.S (Kd.slice 3 (Kd.int .i64)) 27 w' w.heap.size (fun _ => True) u6 x6_2) ∧ Aside0 (Below w.heap.size w w'))
          case atStart => exact ⟨(x6_1), (0), (by first | rfl | (simp; done) | (simp [*]; done)), H', ⟨Nat.le_refl _⟩, ⟨by (with_reducible repeat (first | apply Kd.S_alloc | apply Kd.S_drewN | apply Kd.S_drew)); exact HO_6.out⟩, ⟨by repeat (first | (with_reducible first | exact HB.out | apply below_alloc | apply pw_below_drewN | apply below_drew1) | exact HB.out)⟩⟩
          case round =>
            clear H'
            try clear c1
            try clear p2
            try clear c3
            try clear c4
            try clear p6
            try clear c8
            try clear c8b0
            try clear c10
            try clear c10b0
            try clear c10b1
            try clear c11
            try clear c11b0
            try clear c11b1
            try clear c12
            try clear p2
            obtain ⟨x6_2, x8_2, rfl, HA, HK2, HO_6, HB⟩ := hrel
            cases gk with
            | zero => exact absurd HA.out (by simp [spec_NetMatrix.l1])
            | succ k2 =>
              have H := HA.out
              clear HA
              simp only [spec_NetMatrix.l1] at H
              by_cases c17 : x8_2 < (l1.length : Int)
              · rw [if_pos c17] at H
                have c17b0 : decide (x8_2 < (l1.length : Int)) = true := decide_eq_true c17
                clear c17
                by_cases c18 : 0 ≤ x8_2
                · rw [if_pos c18] at H
                  have c18b0 : decide (0 ≤ x8_2) = true := decide_eq_true c18
                  clear c18
                  have HC19 := Aside0.mk H
                  clear H
                  have p369 : 0 ≤ (x8_2 : Int) := of_decide_eq_true (by first | (with_reducible assumption) | assumption)
                  have q369 : x8_2 < (l1.length : Int) := of_decide_eq_true (by first | (with_reducible assumption) | assumption)
                  obtain ⟨ad369, e369, hx369_0, hx369_1, hx369_2, hx369_3⟩ := at_T62 HR1.out x8_2 p369 q369
                  cases e369
                  replace hx369_0 := (HB.out.cell (World.block_lt_of_cell? w _ hx369_0)).trans hx369_0
                  replace hx369_1 := (HB.out.cell (World.block_lt_of_cell? w _ hx369_1)).trans hx369_1
                  replace hx369_2 := (HB.out.cell (World.block_lt_of_cell? w _ hx369_2)).trans hx369_2
                  replace hx369_3 := (HB.out.cell (World.block_lt_of_cell? w _ hx369_3)).trans hx369_3
                  replace p369 := eq_true p369
                  replace q369 := eq_true q369
                  have p370 : 0 ≤ (x8_2 : Int) := of_decide_eq_true (by first | (with_reducible assumption) | assumption)
                  have q370 : x8_2 < (l1.length : Int) := of_decide_eq_true (by first | (with_reducible assumption) | assumption)
                  obtain ⟨ad370, e370, hx370_0, hx370_1, hx370_2, hx370_3⟩ := at_T62 HR1.out x8_2 p370 q370
                  obtain rfl : ad369 = ad370 := (by injection e370)
                  replace hx370_0 := (HB.out.cell (World.block_lt_of_cell? w _ hx370_0)).trans hx370_0
                  replace hx370_1 := (HB.out.cell (World.block_lt_of_cell? w _ hx370_1)).trans hx370_1
                  replace hx370_2 := (HB.out.cell (World.block_lt_of_cell? w _ hx370_2)).trans hx370_2
                  replace hx370_3 := (HB.out.cell (World.block_lt_of_cell? w _ hx370_3)).trans hx370_3
                  replace p370 := eq_true p370
                  replace q370 := eq_true q370
                  have p371 : 0 ≤ (x8_2 : Int) := of_decide_eq_true (by first | (with_reducible assumption) | assumption)
                  have q371 : x8_2 < (l1.length : Int) := of_decide_eq_true (by first | (with_reducible assumption) | assumption)
                  obtain ⟨ad371, e371, hx371_0, hx371_1, hx371_2, hx371_3⟩ := at_T62 HR1.out x8_2 p371 q371
                  obtain rfl : ad369 = ad371 := (by injection e371)
                  replace hx371_0 := (HB.out.cell (World.block_lt_of_cell? w _ hx371_0)).trans hx371_0
                  replace hx371_1 := (HB.out.cell (World.block_lt_of_cell? w _ hx371_1)).trans hx371_1
                  replace hx371_2 := (HB.out.cell (World.block_lt_of_cell? w _ hx371_2)).trans hx371_2
                  replace hx371_3 := (HB.out.cell (World.block_lt_of_cell? w _ hx371_3)).trans hx371_3
                  replace p371 := eq_true p371
                  replace q371 := eq_true q371
                  go_upto_if 53 with (fail)
                  go_cut [] (fun wc => ∃ (kq : Nat) (x6_18 : List (List Int)), Aside0 (spec_NetMatrix.j2 kq l1 x6_18 x8_2 (wrap64 (((rd_T62 l1 x8_2).f0) - 1)) (wrap64 (((rd_T62 l1 x8_2).f1) - 1)) ((rd_T62 l1 x8_2).f3) = some (r1, r2)) ∧ Aside0 (kq ≤ k2) ∧ Aside0 (Kd.S (Kd.slice 3 (Kd.int .i64)) 27 wc w.heap.size (fun _ => True) u6 x6_18) ∧ Aside0 (Below w.heap.size w wc))
                  case first =>
                    have H := HC19.out
                    clear HC19
                    by_cases c20 : (wrap64 (((rd_T62 l1 x8_2).f0) - 1)) ≥ 0
                    · rw [if_pos c20] at H
                      have c20b0 : decide (0 ≤ (wrap64 (((rd_T62 l1 x8_2).f0) - 1))) = true := decide_eq_true c20
                      clear c20
                      (first | rw [c20b0] | (simp only [i64_w, i32_w]; rw [c20b0]) | skip)
                      obtain ⟨ji21, hji21⟩ : ∃ j_ : Int, (wrap64 (((rd_T62 l1 x8_2).f0) - 1)) = j_ := ⟨_, rfl⟩
                      replace H : (if 0 ≤ (ji21) then (if (ji21) < (x6_2.length : Int) then (if (ji21) < ((rd_L1 x6_2 (ji21)).length : Int) then (spec_NetMatrix.j2 k2 l1 (x6_2.set ((ji21) : Int).toNat ((rd_L1 x6_2 (ji21)).set ((ji21) : Int).toNat (wrap64 ((rd (rd_L1 x6_2 (ji21)) (ji21)) + ((rd_T62 l1 x8_2).f3))))) x8_2 ji21 (wrap64 (((rd_T62 l1 x8_2).f1) - 1)) ((rd_T62 l1 x8_2).f3)) else (none)) else (none)) else (none)) = some (r1, r2) := by first | (rw [hji21] at H; exact H) | (simp only [hji21] at H ⊢; exact H)
                      (try rw [hji21] at c20b0)
                      have hji21w : (IntKind.i64.wrap (((rd_T62 l1 x8_2).f0) - 1)) = ji21 := (i64_w _).trans hji21
                      by_cases c22 : 0 ≤ (ji21)
                      · rw [if_pos c22] at H
                        have c22b0 : decide (0 ≤ (ji21)) = true := decide_eq_true c22
                        clear c22
                        by_cases c23 : (ji21) < (x6_2.length : Int)
                        · rw [if_pos c23] at H
                          have c23b0 : decide ((ji21) < (x6_2.length : Int)) = true := decide_eq_true c23
                          clear c23
                          by_cases c24 : (ji21) < ((rd_L1 x6_2 (ji21)).length : Int)
                          · rw [if_pos c24] at H
                            have c24b0 : decide ((ji21) < ((rd_L1 x6_2 (ji21)).length : Int)) = true := decide_eq_true c24
                            clear c24
                            obtain ⟨y375, hy375⟩ : ∃ y_ : List Int, y_ = ((rd_L1 x6_2 (ji21)).set ((ji21) : Int).toNat (wrap64 ((rd (rd_L1 x6_2 (ji21)) (ji21)) + ((rd_T62 l1 x8_2).f3)))) := ⟨_, rfl⟩
                            replace H : (spec_NetMatrix.j2 k2 l1 (x6_2.set ((ji21) : Int).toNat y375) x8_2 ji21 (wrap64 (((rd_T62 l1 x8_2).f1) - 1)) ((rd_T62 l1 x8_2).f3)) = some (r1, r2) := by first | (rw [hy375]; with_reducible exact H) | (have H2_ := (Option.bind_some _ _).symm.trans H; rw [hy375]; with_reducible exact H2_) | (have H2_ := (Option.bind_some _ _).symm.trans H; with_reducible exact H2_) | with_reducible exact H | (rw [hy375]; exact H) | exact H
                            have Ny375 := Aside0.mk hy375
                            clear hy375
                            obtain ⟨y377, hy377⟩ : ∃ y_ : List (List Int), y_ = (x6_2.set ((ji21) : Int).toNat y375) := ⟨_, rfl⟩
                            replace H : (spec_NetMatrix.j2 k2 l1 y377 x8_2 ji21 (wrap64 (((rd_T62 l1 x8_2).f1) - 1)) ((rd_T62 l1 x8_2).f3)) = some (r1, r2) := by first | (rw [hy377]; with_reducible exact H) | (have H2_ := (Option.bind_some _ _).symm.trans H; rw [hy377]; with_reducible exact H2_) | (have H2_ := (Option.bind_some _ _).symm.trans H; with_reducible exact H2_) | with_reducible exact H | (rw [hy377]; exact H) | exact H
                            have Ny377 := Aside0.mk hy377
                            clear hy377
                            have H' := Aside0.mk H
                            clear H
                            try go_wp2
                            have n0_ := Aside0.mk (Kd.S_drew HO_6.out)
                            have n1_ := Aside0.mk (below_drew1 HB.out)
                            clear HO_6
                            clear HB
                            have HO_6 := n0_
                            have HB := n1_
                            clear n0_ n1_
                            obtain ⟨Ao27, co27, eo27⟩ := Kd.S_slice HO_6.out
                            (first | subst eo27 | (injection eo27 with f1_ f2_ f3_; have f4_ := f1_.symm; have f5_ := f3_.symm; clear f1_ f2_ f3_; subst f4_; subst f5_))
                            have p372 : 0 ≤ ((ji21) : Int) := of_decide_eq_true (by first | (with_reducible assumption) | assumption)
                            have q372 : (ji21) < (x6_2.length : Int) := of_decide_eq_true (by first | (with_reducible assumption) | assumption)
                            obtain ⟨ad372, A372_0, c372_0, e372, hx372_0, hl372_0, hi372_0⟩ := at_L1 (Kd.S_reads' HO_6.out).2.2 (ji21) p372 q372
                            cases e372
                            obtain ⟨ce372, hce372, hMe372, hcc372⟩ := Kd.S_get HO_6.out [] (ji21) p372 (by first | exact q372 | exact of_decide_eq_true (by first | (with_reducible assumption) | assumption) | (have e_ := (Kd.S_reads' HO_6.out).1; omega))
                            obtain ⟨ve372_0, rfl, ge372_0⟩ := hMe372
                            have hv372_0 := hcc372 0 _ rfl
                            rw [Nat.add_zero, show ((Kd.slice 3 (Kd.int .i64))).sz = 1 from rfl, Nat.mul_one] at hv372_0
                            replace hv372_0 := Option.some.inj (hv372_0.symm.trans hx372_0)
                            rw [hv372_0] at ge372_0
                            have HL372_0 := Aside0.mk (show Kd.R (Kd.int .i64) 3 _ _ _ _ (rd_L1 x6_2 (ji21)) from ge372_0)
                            clear hv372_0 ge372_0
                            have HX372_0 := Aside0.mk hx372_0
                            clear hcc372 hce372
                            have HR372_0 := Aside0.mk hi372_0
                            have HC372_0 := Aside0.mk hl372_0
                            clear hi372_0 hl372_0
                            replace p372 := eq_true p372
                            replace q372 := eq_true q372
                            have p373 : 0 ≤ ((ji21) : Int) := of_decide_eq_true (by first | (with_reducible assumption) | assumption)
                            have q373 : (ji21) < (x6_2.length : Int) := of_decide_eq_true (by first | (with_reducible assumption) | assumption)
                            obtain ⟨ad373, A373_0, c373_0, e373, hx373_0, hl373_0, hi373_0⟩ := at_L1 (Kd.S_reads' HO_6.out).2.2 (ji21) p373 q373
                            obtain rfl : ad372 = ad373 := (by injection e373)
                            obtain ⟨ce373, hce373, hMe373, hcc373⟩ := Kd.S_get HO_6.out [] (ji21) p373 (by first | exact q373 | exact of_decide_eq_true (by first | (with_reducible assumption) | assumption) | (have e_ := (Kd.S_reads' HO_6.out).1; omega))
                            obtain ⟨ve373_0, rfl, ge373_0⟩ := hMe373
                            have hv373_0 := hcc373 0 _ rfl
                            rw [Nat.add_zero, show ((Kd.slice 3 (Kd.int .i64))).sz = 1 from rfl, Nat.mul_one] at hv373_0
                            replace hv373_0 := Option.some.inj (hv373_0.symm.trans hx373_0)
                            rw [hv373_0] at ge373_0
                            have HL373_0 := Aside0.mk (show Kd.R (Kd.int .i64) 3 _ _ _ _ (rd_L1 x6_2 (ji21)) from ge373_0)
                            clear hv373_0 ge373_0
                            have HX373_0 := Aside0.mk hx373_0
                            clear hcc373 hce373
                            have HR373_0 := Aside0.mk hi373_0
                            have HC373_0 := Aside0.mk hl373_0
                            clear hi373_0 hl373_0
                            replace p373 := eq_true p373
                            replace q373 := eq_true q373
                            have ea_ := Option.some.inj (hx372_0.symm.trans hx373_0)
                            injection ea_ with ea_ en_ ec_
                            subst ea_
                            subst ec_
                            clear en_
                            have p374 : 0 ≤ ((ji21) : Int) := of_decide_eq_true (by first | (with_reducible assumption) | assumption)
                            have q374 : (ji21) < ((rd_L1 x6_2 (ji21)).length : Int) := of_decide_eq_true (by first | (with_reducible assumption) | assumption)
                            obtain ⟨ad374, e374, hx374_0⟩ := Kd.at_int (by repeat (first | (with_reducible exact HR373_0.out) | (with_reducible refine Kd.C_alloc ?_ _) | (with_reducible refine Kd.C_drewN ?_ _) | (with_reducible refine Kd.C_drew ?_) | exact HR373_0.out)) (ji21) p374 q374
                            cases e374
                            replace p374 := eq_true p374
                            replace q374 := eq_true q374
                            have p25 : 0 ≤ ((ji21) : Int) := of_decide_eq_true (by first | (with_reducible assumption) | assumption)
                            have q25 : ((ji21) : Int) < (((rd_L1 x6_2 (ji21)).length : Int) : Int) := of_decide_eq_true (by first | (with_reducible assumption) | assumption)
                            obtain ⟨go25, co25, eo25, gb25, gl25, cl25, HG25⟩ := Kd.R_form HL372_0.out (by omega)
                            (first | cases eo25 | (injection eo25 with ea_ en_ ec_; (first | subst ea_ | (injection ea_ with ea_; subst ea_)); subst ec_; clear en_))
                            have GB25 := Aside0.mk gb25
                            have GG25 := Aside0.mk HG25
                            clear gb25 gl25 HG25
                            (first | simp only [add_plain] at hx374_0 | skip)
                            obtain ⟨hx25_0, hf25_0⟩ := Kd.R_celln 0 HL372_0.out ((ji21) : Int) p25 q25
                            replace p25 := eq_true p25
                            replace q25 := eq_true q25
                            have hq28 : ((ji21) : Int) < (x6_2.length : Int) := (by have h_ : ((ji21) : Int) < ((x6_2.length : Int) : Int) := of_decide_eq_true (by first | (with_reducible assumption) | assumption); first | exact h_ | (have e_ := (Kd.S_reads' HO_6.out).1; omega) | simpa only [List.length_set, List.length_set] using h_)
                            obtain ⟨oki28, ce28, hcl28, hM28, hcc28, hok28, hbk28⟩ := Kd.S_borrow HO_6.out [] ((ji21) : Int) (of_decide_eq_true (by first | (with_reducible assumption) | assumption)) (by first | exact hq28 | simpa only [List.length_set] using hq28 | exact of_decide_eq_true (by first | (with_reducible assumption) | assumption))
                            obtain ⟨ve28_0, rfl, ge28_0⟩ := hM28
                            have hv28 := hcc28 0 _ rfl
                            rw [Nat.add_zero, show ((Kd.slice 3 (Kd.int .i64))).sz = 1 from rfl, Nat.mul_one] at hv28
                            replace hv28 := Option.some.inj (hv28.symm.trans HX372_0.out)
                            subst hv28
                            clear hcc28 hcl28
                            replace ge28_0 := (show Kd.R (Kd.int .i64) 3 _ _ _ _ (rd_L1 x6_2 (ji21)) from ge28_0)
                            have HP28 := Kd.R_putg ge28_0 ((ji21) : Int) (wrap64 ((rd (rd_L1 x6_2 (ji21)) (ji21)) + ((rd_T62 l1 x8_2).f3)))
                            rw [← Ny375.out] at HP28
                            have HS28 := hbk28 HP28.2 (fun k_ e_ => by injection e_ with e_; subst e_; exact ge28_0.1 _ rfl) (x' := y375) (Kd.M_row HP28.1)
                            rw [← Ny377.out] at HS28
                            have HQ28 := Aside0.mk HS28
                            clear HP28 HS28 hbk28 hok28
                            refine start_ (n := 16) (S := fun w' => w'.cell? (ad372.add ((ji21)).toNat) = some (.slice (some ⟨go25, 0, none⟩) (rd_L1 x6_2 (ji21)).length c372_0) ∧ w'.cell? (ad372.add ((ji21)).toNat) = some (.slice (some ⟨go25, 0, none⟩) (rd_L1 x6_2 (ji21)).length c372_0) ∧ w'.cell? ⟨go25, ((ji21)).toNat, none⟩ = some (.int .i64 (rd (rd_L1 x6_2 (ji21)) (ji21)))) (ds := [15]) #[false, false, false, false, false, false, false, false, false, false, false, false, false, false, false, false] (by kernel_rfl) rfl rfl ⟨hx372_0, hx373_0, hx374_0⟩ (fun hHeld => ?_); refine with_tabW spec_NetMatrix.tab15 spec_NetMatrix.bits15 (fun HT_ HW_ => ?_)
                            generalize wr.drew = w26 at HO_6 HB GG25 HL372_0 HL373_0 HQ28 HR372_0 HR373_0 HX372_0 HX373_0 hf25_0 hx25_0 hx372_0 hx373_0 hx374_0 hHeld ⊢
                            refine pure_ (i := 0) (N := some 54) (v := ?_) (a' := ?_) #[true, false, false, false, false, false, false, false, false, false, false, false, false, false, false, false] rfl rfl (any_of HT_.out (by kernel_rfl)) (fun _ _ _ h => h) (Or.inl ⟨by rfl, ?_⟩) ?_ ?_
                            rotate_left
                            · intro w'
                              go_simp
                              with_reducible rfl
                            rotate_left
                            · simp only [Act.put, List.setIfInBounds_toArray, List.set_cons_zero, List.set_cons_succ, i64_w, i32_w]
                              rfl
                            refine pure_ (i := 1) (N := some 55) (v := ?_) (a' := ?_) #[true, true, false, false, false, false, false, false, false, false, false, false, false, false, false, false] rfl rfl (any_of HT_.out (by kernel_rfl)) (fun _ _ _ h => h) (Or.inl ⟨by rfl, ?_⟩) ?_ ?_
                            rotate_left
                            · intro w'
                              go_simp
                              with_reducible rfl
                            rotate_left
                            · simp only [Act.put, List.setIfInBounds_toArray, List.set_cons_zero, List.set_cons_succ, i64_w, i32_w]
                              rfl
                            refine pure_ (i := 2) (N := some 56) (v := ?_) (a' := ?_) #[true, true, true, false, false, false, false, false, false, false, false, false, false, false, false, false] rfl rfl (any_of HT_.out (by kernel_rfl)) (fun _ _ _ h => h) (Or.inl ⟨by rfl, ?_⟩) ?_ ?_
                            rotate_left
                            · intro w'
                              go_simp
                              with_reducible rfl
                            rotate_left
                            · simp only [Act.put, List.setIfInBounds_toArray, List.set_cons_zero, List.set_cons_succ, i64_w, i32_w]
                              rfl
                            refine pure_ (i := 4) (N := some 58) (v := ?_) (a' := ?_) #[true, true, true, false, true, false, false, false, false, false, false, false, false, false, false, false] rfl rfl (any_of HT_.out (by kernel_rfl)) (fun _ _ _ h => h) (Or.inl ⟨by rfl, ?_⟩) ?_ ?_
                            rotate_left
                            · intro w'
                              go_simp
                              with_reducible rfl
                            rotate_left
                            · simp only [Act.put, List.setIfInBounds_toArray, List.set_cons_zero, List.set_cons_succ, i64_w, i32_w]
                              rfl
                            refine pure_ (i := 5) (N := some 59) (v := ?_) (a' := ?_) #[true, true, true, false, true, true, false, false, false, false, false, false, false, false, false, false] rfl rfl (any_of HT_.out (by kernel_rfl)) (fun _ _ _ h => h) (Or.inl ⟨by rfl, ?_⟩) ?_ ?_
                            rotate_left
                            · intro w'
                              go_simp
                              with_reducible rfl
                            rotate_left
                            · simp only [Act.put, List.setIfInBounds_toArray, List.set_cons_zero, List.set_cons_succ, i64_w, i32_w]
                              rfl
                            refine pure_ (i := 6) (N := some 60) (v := ?_) (a' := ?_) #[true, true, true, false, true, true, true, false, false, false, false, false, false, false, false, false] rfl rfl (any_of HT_.out (by kernel_rfl)) (fun _ _ _ h => h) (Or.inl ⟨by rfl, ?_⟩) ?_ ?_
                            rotate_left
                            · intro w'
                              go_simp
                              with_reducible rfl
                            rotate_left
                            · simp only [Act.put, List.setIfInBounds_toArray, List.set_cons_zero, List.set_cons_succ, i64_w, i32_w]
                              rfl
                            refine pure_ (i := 7) (N := some 61) (v := ?_) (a' := ?_) #[true, true, true, false, true, true, true, true, false, false, false, false, false, false, false, false] rfl rfl (any_of HT_.out (by kernel_rfl)) (fun _ _ _ h => h) (Or.inl ⟨by rfl, ?_⟩) ?_ ?_
                            rotate_left
                            · intro w'
                              go_simp
                              with_reducible rfl
                            rotate_left
                            · simp only [Act.put, List.setIfInBounds_toArray, List.set_cons_zero, List.set_cons_succ, i64_w, i32_w]
                              rfl
                            refine pure_ (i := 9) (N := some 63) (v := ?_) (a' := ?_) #[true, true, true, false, true, true, true, true, false, true, false, false, false, false, false, false] rfl rfl (any_of HT_.out (by kernel_rfl)) (fun _ _ _ h => h) (Or.inl ⟨by rfl, ?_⟩) ?_ ?_
                            rotate_left
                            · intro w'
                              go_simp
                              with_reducible rfl
                            rotate_left
                            · simp only [Act.put, List.setIfInBounds_toArray, List.set_cons_zero, List.set_cons_succ, i64_w, i32_w]
                              rfl
                            refine pure_ (i := 12) (N := some 66) (v := ?_) (a' := ?_) #[true, true, true, false, true, true, true, true, false, true, false, false, true, false, false, false] rfl rfl (any_of HT_.out (by kernel_rfl)) (fun _ _ _ h => h) (Or.inl ⟨by rfl, ?_⟩) ?_ ?_
                            rotate_left
                            · intro w'
                              go_simp
                              with_reducible rfl
                            rotate_left
                            · simp only [Act.put, List.setIfInBounds_toArray, List.set_cons_zero, List.set_cons_succ, i64_w, i32_w]
                              rfl
                            refine take_ (i := 3) (N := some 57) (v := ?_) (a' := ?_) #[true, true, true, true, true, true, true, true, false, true, false, false, true, false, false, false] rfl rfl (take_ofW HT_.out HW_.out (by kernel_rfl)) (fun _ _ _ h => h) (Or.inl ⟨by rfl, ?_⟩) hHeld ?_ ?_
                            rotate_left
                            · rintro w' ⟨s0, s1, s2⟩
                              go_simp
                              with_reducible rfl
                            rotate_left
                            · simp only [Act.put, List.setIfInBounds_toArray, List.set_cons_zero, List.set_cons_succ, i64_w, i32_w]
                              rfl
                            refine take_ (i := 8) (N := some 62) (v := ?_) (a' := ?_) #[true, true, true, true, true, true, true, true, true, true, false, false, true, false, false, false] rfl rfl (take_ofW HT_.out HW_.out (by kernel_rfl)) (fun _ _ _ h => h) (Or.inl ⟨by rfl, ?_⟩) hHeld ?_ ?_
                            rotate_left
                            · rintro w' ⟨s0, s1, s2⟩
                              go_simp
                              with_reducible rfl
                            rotate_left
                            · simp only [Act.put, List.setIfInBounds_toArray, List.set_cons_zero, List.set_cons_succ, i64_w, i32_w]
                              rfl
                            refine pure_ (i := 10) (N := some 64) (v := ?_) (a' := ?_) #[true, true, true, true, true, true, true, true, true, true, true, false, true, false, false, false] rfl rfl (any_of HT_.out (by kernel_rfl)) (fun _ _ _ h => h) (Or.inl ⟨by rfl, ?_⟩) ?_ ?_
                            rotate_left
                            · intro w'
                              go_simp
                              with_reducible rfl
                            rotate_left
                            · simp only [Act.put, List.setIfInBounds_toArray, List.set_cons_zero, List.set_cons_succ, i64_w, i32_w]
                              rfl
                            refine take_ (i := 11) (N := some 65) (v := ?_) (a' := ?_) #[true, true, true, true, true, true, true, true, true, true, true, true, true, false, false, false] rfl rfl (take_ofW HT_.out HW_.out (by kernel_rfl)) (fun _ _ _ h => h) (Or.inl ⟨by rfl, ?_⟩) hHeld ?_ ?_
                            rotate_left
                            · rintro w' ⟨s0, s1, s2⟩
                              go_simp
                              with_reducible rfl
                            rotate_left
                            · simp only [Act.put, List.setIfInBounds_toArray, List.set_cons_zero, List.set_cons_succ, i64_w, i32_w]
                              rfl
                            refine pure_ (i := 13) (N := some 67) (v := ?_) (a' := ?_) #[true, true, true, true, true, true, true, true, true, true, true, true, true, true, false, false] rfl rfl (any_of HT_.out (by kernel_rfl)) (fun _ _ _ h => h) (Or.inl ⟨by rfl, ?_⟩) ?_ ?_
                            rotate_left
                            · intro w'
                              go_simp
                              with_reducible rfl
                            rotate_left
                            · simp only [Act.put, List.setIfInBounds_toArray, List.set_cons_zero, List.set_cons_succ, i64_w, i32_w]
                              rfl
                            refine pure_ (i := 14) (N := some 68) (v := ?_) (a' := ?_) #[true, true, true, true, true, true, true, true, true, true, true, true, true, true, true, false] rfl rfl (any_of HT_.out (by kernel_rfl)) (fun _ _ _ h => h) (Or.inl ⟨by rfl, ?_⟩) ?_ ?_
                            rotate_left
                            · intro w'
                              go_simp
                              with_reducible rfl
                            rotate_left
                            · simp only [Act.put, List.setIfInBounds_toArray, List.set_cons_zero, List.set_cons_succ, i64_w, i32_w]
                              rfl
                            refine last_ (i := 15) (N := none) #[true, true, true, true, true, true, true, true, true, true, true, true, true, true, true, true] rfl rfl (one_of HT_.out (by kernel_rfl)) (by decide) (fun K hK => ?_)
                            refine skip_ (w1 := ?_) (by rfl) rfl ?_ ?_
                            rotate_left
                            · go_simp
                              rfl
                            refine hK.out _ _ ?_
                            clear hK K
                            refine done_ (done_of HT_.out (by kernel_rfl)) ?_
                            try go_wp2
                            first | go_meet | ((try subst hji21); go_meet)
                            case rel => exact ⟨_, (y377), H', ⟨by have := HK1.out; have := HK2.out; first | omega | exact Nat.le_refl _⟩, ⟨by (with_reducible repeat (first | apply Kd.S_alloc | apply Kd.S_drewN | apply Kd.S_drew)); exact HQ28.out⟩, ⟨by repeat (first | (with_reducible first | exact HB.out | apply below_alloc | apply pw_below_drewN | apply below_drew1 | refine below_set ?_ GB25.out) | exact HB.out)⟩⟩
                          · rw [if_neg c24] at H
                            exact absurd H (by simp)
                        · rw [if_neg c23] at H
                          exact absurd H (by simp)
                      · rw [if_neg c22] at H
                        exact absurd H (by simp)
                    · rw [if_neg c20] at H
                      have c20b0 : decide (0 ≤ (wrap64 (((rd_T62 l1 x8_2).f0) - 1))) = false := decide_eq_false c20
                      clear c20
                      (first | rw [c20b0] | (simp only [i64_w, i32_w]; rw [c20b0]) | skip)
                      have H' := Aside0.mk H
                      clear H
                      go_wp2
                      go_meet
                      case rel => exact ⟨_, (x6_2), H', ⟨by have := HK1.out; have := HK2.out; first | omega | exact Nat.le_refl _⟩, ⟨by (with_reducible repeat (first | apply Kd.S_alloc | apply Kd.S_drewN | apply Kd.S_drew)); exact HO_6.out⟩, ⟨by repeat (first | (with_reducible first | exact HB.out | apply below_alloc | apply pw_below_drewN | apply below_drew1) | exact HB.out)⟩⟩
                  case rest =>
                    clear HC19
                    try clear c1
                    try clear c2
                    try clear p2
                    try clear q2
                    try clear hx2
                    try clear hf2
                    try clear c3
                    try clear p3
                    try clear q3
                    try clear hx3
                    try clear c4
                    try clear p6
                    try clear c8
                    try clear c8b0
                    try clear c10
                    try clear c10b0
                    try clear c10b1
                    try clear c11
                    try clear c11b0
                    try clear c11b1
                    try clear c12
                    try clear c17
                    try clear c17b0
                    try clear c18
                    try clear c18b0
                    try clear c20
                    try clear c20b0
                    try clear c22
                    try clear c22b0
                    try clear c23
                    try clear c23b0
                    try clear c24
                    try clear c24b0
                    try clear p25
                    try clear q25
                    try clear hx25
                    try clear hf25
                    try clear c28
                    try clear q28
                    try clear hx25_0
                    try clear hx369_0
                    try clear hx369_1
                    try clear hx369_2
                    try clear hx369_3
                    try clear hx370_0
                    try clear hx370_1
                    try clear hx370_2
                    try clear hx370_3
                    try clear hx371_0
                    try clear hx371_1
                    try clear hx371_2
                    try clear hx371_3
                    try clear hx372_0
                    try clear hx373_0
                    try clear hx374_0
                    try clear p2
                    try clear p25
                    try clear p369
                    try clear p370
                    try clear p371
                    try clear p372
                    try clear p373
                    try clear p374
                    try clear p6
                    try clear q25
                    try clear q369
                    try clear q370
                    try clear q371
                    try clear q372
                    try clear q373
                    try clear q374
                    obtain ⟨kq, x6_18, HA, HJ18, HO_6, HB⟩ := hcut
                    cases kq with
                    | zero => exact absurd HA.out (by simp [spec_NetMatrix.j2])
                    | succ kj18 =>
                      have H := HA.out
                      clear HA
                      simp only [spec_NetMatrix.j2] at H
                      by_cases c30 : (wrap64 (((rd_T62 l1 x8_2).f1) - 1)) ≥ 0
                      · rw [if_pos c30] at H
                        have c30b0 : decide (0 ≤ (wrap64 (((rd_T62 l1 x8_2).f1) - 1))) = true := decide_eq_true c30
                        clear c30
                        obtain ⟨ji31, hji31⟩ : ∃ j_ : Int, (wrap64 (((rd_T62 l1 x8_2).f1) - 1)) = j_ := ⟨_, rfl⟩
                        replace H : (if 0 ≤ (ji31) then (if (ji31) < (x6_18.length : Int) then (if (ji31) < ((rd_L1 x6_18 (ji31)).length : Int) then ((some (x6_18.set ((ji31) : Int).toNat ((rd_L1 x6_18 (ji31)).set ((ji31) : Int).toNat (wrap64 ((rd (rd_L1 x6_18 (ji31)) (ji31)) + ((rd_T62 l1 x8_2).f3)))) : List (List Int))).bind fun y383 => (if (wrap64 (((rd_T62 l1 x8_2).f0) - 1)) ≥ 0 then (if 0 ≤ (wrap64 (((rd_T62 l1 x8_2).f0) - 1)) then (if (wrap64 (((rd_T62 l1 x8_2).f0) - 1)) < (x6_18.length : Int) then (if (ji31) < ((rd_L1 y383 (wrap64 (((rd_T62 l1 x8_2).f0) - 1))).length : Int) then ((some (y383.set ((wrap64 (((rd_T62 l1 x8_2).f0) - 1)) : Int).toNat ((rd_L1 y383 (wrap64 (((rd_T62 l1 x8_2).f0) - 1))).set ((ji31) : Int).toNat (wrap64 ((rd (rd_L1 y383 (wrap64 (((rd_T62 l1 x8_2).f0) - 1))) (ji31)) - ((rd_T62 l1 x8_2).f3)))) : List (List Int))).bind fun y389 => (if (wrap64 (((rd_T62 l1 x8_2).f0) - 1)) < ((rd_L1 y389 (ji31)).length : Int) then (spec_NetMatrix.l1 kj18 l1 (y389.set ((ji31) : Int).toNat ((rd_L1 y389 (ji31)).set ((wrap64 (((rd_T62 l1 x8_2).f0) - 1)) : Int).toNat (wrap64 ((rd (rd_L1 y389 (ji31)) (wrap64 (((rd_T62 l1 x8_2).f0) - 1))) - ((rd_T62 l1 x8_2).f3))))) (wrap64 (x8_2 + 1))) else (none))) else (none)) else (none)) else (none)) else (spec_NetMatrix.l1 kj18 l1 y383 (wrap64 (x8_2 + 1))))) else (none)) else (none)) else (none)) = some (r1, r2) := by first | (rw [hji31] at H; exact H) | (simp only [hji31] at H ⊢; exact H)
                        (try rw [hji31] at c30b0)
                        have hji31w : (IntKind.i64.wrap (((rd_T62 l1 x8_2).f1) - 1)) = ji31 := (i64_w _).trans hji31
                        by_cases c32 : 0 ≤ (ji31)
                        · rw [if_pos c32] at H
                          have c32b0 : decide (0 ≤ (ji31)) = true := decide_eq_true c32
                          clear c32
                          by_cases c33 : (ji31) < (x6_18.length : Int)
                          · rw [if_pos c33] at H
                            have c33b0 : decide ((ji31) < (x6_18.length : Int)) = true := decide_eq_true c33
                            clear c33
                            by_cases c34 : (ji31) < ((rd_L1 x6_18 (ji31)).length : Int)
                            · rw [if_pos c34] at H
                              have c34b0 : decide ((ji31) < ((rd_L1 x6_18 (ji31)).length : Int)) = true := decide_eq_true c34
                              clear c34
                              obtain ⟨y381, hy381⟩ : ∃ y_ : List Int, y_ = ((rd_L1 x6_18 (ji31)).set ((ji31) : Int).toNat (wrap64 ((rd (rd_L1 x6_18 (ji31)) (ji31)) + ((rd_T62 l1 x8_2).f3)))) := ⟨_, rfl⟩
                              replace H : ((some (x6_18.set ((ji31) : Int).toNat y381 : List (List Int))).bind fun y383 => (if (wrap64 (((rd_T62 l1 x8_2).f0) - 1)) ≥ 0 then (if 0 ≤ (wrap64 (((rd_T62 l1 x8_2).f0) - 1)) then (if (wrap64 (((rd_T62 l1 x8_2).f0) - 1)) < (x6_18.length : Int) then (if (ji31) < ((rd_L1 y383 (wrap64 (((rd_T62 l1 x8_2).f0) - 1))).length : Int) then ((some (y383.set ((wrap64 (((rd_T62 l1 x8_2).f0) - 1)) : Int).toNat ((rd_L1 y383 (wrap64 (((rd_T62 l1 x8_2).f0) - 1))).set ((ji31) : Int).toNat (wrap64 ((rd (rd_L1 y383 (wrap64 (((rd_T62 l1 x8_2).f0) - 1))) (ji31)) - ((rd_T62 l1 x8_2).f3)))) : List (List Int))).bind fun y389 => (if (wrap64 (((rd_T62 l1 x8_2).f0) - 1)) < ((rd_L1 y389 (ji31)).length : Int) then (spec_NetMatrix.l1 kj18 l1 (y389.set ((ji31) : Int).toNat ((rd_L1 y389 (ji31)).set ((wrap64 (((rd_T62 l1 x8_2).f0) - 1)) : Int).toNat (wrap64 ((rd (rd_L1 y389 (ji31)) (wrap64 (((rd_T62 l1 x8_2).f0) - 1))) - ((rd_T62 l1 x8_2).f3))))) (wrap64 (x8_2 + 1))) else (none))) else (none)) else (none)) else (none)) else (spec_NetMatrix.l1 kj18 l1 y383 (wrap64 (x8_2 + 1))))) = some (r1, r2) := by first | (rw [hy381]; with_reducible exact H) | (have H2_ := (Option.bind_some _ _).symm.trans H; rw [hy381]; with_reducible exact H2_) | (have H2_ := (Option.bind_some _ _).symm.trans H; with_reducible exact H2_) | with_reducible exact H | (rw [hy381]; exact H) | exact H
                              have Ny381 := Aside0.mk hy381
                              clear hy381
                              obtain ⟨y383, hy383⟩ : ∃ y_ : List (List Int), y_ = (x6_18.set ((ji31) : Int).toNat y381) := ⟨_, rfl⟩
                              replace H : (if (wrap64 (((rd_T62 l1 x8_2).f0) - 1)) ≥ 0 then (if 0 ≤ (wrap64 (((rd_T62 l1 x8_2).f0) - 1)) then (if (wrap64 (((rd_T62 l1 x8_2).f0) - 1)) < (x6_18.length : Int) then (if (ji31) < ((rd_L1 y383 (wrap64 (((rd_T62 l1 x8_2).f0) - 1))).length : Int) then ((some (y383.set ((wrap64 (((rd_T62 l1 x8_2).f0) - 1)) : Int).toNat ((rd_L1 y383 (wrap64 (((rd_T62 l1 x8_2).f0) - 1))).set ((ji31) : Int).toNat (wrap64 ((rd (rd_L1 y383 (wrap64 (((rd_T62 l1 x8_2).f0) - 1))) (ji31)) - ((rd_T62 l1 x8_2).f3)))) : List (List Int))).bind fun y389 => (if (wrap64 (((rd_T62 l1 x8_2).f0) - 1)) < ((rd_L1 y389 (ji31)).length : Int) then (spec_NetMatrix.l1 kj18 l1 (y389.set ((ji31) : Int).toNat ((rd_L1 y389 (ji31)).set ((wrap64 (((rd_T62 l1 x8_2).f0) - 1)) : Int).toNat (wrap64 ((rd (rd_L1 y389 (ji31)) (wrap64 (((rd_T62 l1 x8_2).f0) - 1))) - ((rd_T62 l1 x8_2).f3))))) (wrap64 (x8_2 + 1))) else (none))) else (none)) else (none)) else (none)) else (spec_NetMatrix.l1 kj18 l1 y383 (wrap64 (x8_2 + 1)))) = some (r1, r2) := by first | (rw [hy383]; with_reducible exact H) | (have H2_ := (Option.bind_some _ _).symm.trans H; rw [hy383]; with_reducible exact H2_) | (have H2_ := (Option.bind_some _ _).symm.trans H; with_reducible exact H2_) | with_reducible exact H | (rw [hy383]; exact H) | exact H
                              have Ny383 := Aside0.mk hy383
                              clear hy383
                              by_cases c36 : (wrap64 (((rd_T62 l1 x8_2).f0) - 1)) ≥ 0
                              · rw [if_pos c36] at H
                                have c36b0 : decide (0 ≤ (wrap64 (((rd_T62 l1 x8_2).f0) - 1))) = true := decide_eq_true c36
                                clear c36
                                obtain ⟨ji37, hji37⟩ : ∃ j_ : Int, (wrap64 (((rd_T62 l1 x8_2).f0) - 1)) = j_ := ⟨_, rfl⟩
                                replace H : (if 0 ≤ (ji37) then (if (ji37) < (x6_18.length : Int) then (if (ji31) < ((rd_L1 y383 (ji37)).length : Int) then ((some (y383.set ((ji37) : Int).toNat ((rd_L1 y383 (ji37)).set ((ji31) : Int).toNat (wrap64 ((rd (rd_L1 y383 (ji37)) (ji31)) - ((rd_T62 l1 x8_2).f3)))) : List (List Int))).bind fun y389 => (if (ji37) < ((rd_L1 y389 (ji31)).length : Int) then (spec_NetMatrix.l1 kj18 l1 (y389.set ((ji31) : Int).toNat ((rd_L1 y389 (ji31)).set ((ji37) : Int).toNat (wrap64 ((rd (rd_L1 y389 (ji31)) (ji37)) - ((rd_T62 l1 x8_2).f3))))) (wrap64 (x8_2 + 1))) else (none))) else (none)) else (none)) else (none)) = some (r1, r2) := by first | (rw [hji37] at H; exact H) | (simp only [hji37] at H ⊢; exact H)
                                (try rw [hji37] at c36b0)
                                have hji37w : (IntKind.i64.wrap (((rd_T62 l1 x8_2).f0) - 1)) = ji37 := (i64_w _).trans hji37
                                by_cases c38 : 0 ≤ (ji37)
                                · rw [if_pos c38] at H
                                  have c38b0 : decide (0 ≤ (ji37)) = true := decide_eq_true c38
                                  clear c38
                                  by_cases c39 : (ji37) < (x6_18.length : Int)
                                  · rw [if_pos c39] at H
                                    have c39b0 : decide ((ji37) < (x6_18.length : Int)) = true := decide_eq_true c39
                                    clear c39
                                    by_cases c40 : (ji31) < ((rd_L1 y383 (ji37)).length : Int)
                                    · rw [if_pos c40] at H
                                      have c40b0 : decide ((ji31) < ((rd_L1 y383 (ji37)).length : Int)) = true := decide_eq_true c40
                                      clear c40
                                      obtain ⟨y387, hy387⟩ : ∃ y_ : List Int, y_ = ((rd_L1 y383 (ji37)).set ((ji31) : Int).toNat (wrap64 ((rd (rd_L1 y383 (ji37)) (ji31)) - ((rd_T62 l1 x8_2).f3)))) := ⟨_, rfl⟩
                                      replace H : ((some (y383.set ((ji37) : Int).toNat y387 : List (List Int))).bind fun y389 => (if (ji37) < ((rd_L1 y389 (ji31)).length : Int) then (spec_NetMatrix.l1 kj18 l1 (y389.set ((ji31) : Int).toNat ((rd_L1 y389 (ji31)).set ((ji37) : Int).toNat (wrap64 ((rd (rd_L1 y389 (ji31)) (ji37)) - ((rd_T62 l1 x8_2).f3))))) (wrap64 (x8_2 + 1))) else (none))) = some (r1, r2) := by first | (rw [hy387]; with_reducible exact H) | (have H2_ := (Option.bind_some _ _).symm.trans H; rw [hy387]; with_reducible exact H2_) | (have H2_ := (Option.bind_some _ _).symm.trans H; with_reducible exact H2_) | with_reducible exact H | (rw [hy387]; exact H) | exact H
                                      have Ny387 := Aside0.mk hy387
                                      clear hy387
                                      obtain ⟨y389, hy389⟩ : ∃ y_ : List (List Int), y_ = (y383.set ((ji37) : Int).toNat y387) := ⟨_, rfl⟩
                                      replace H : (if (ji37) < ((rd_L1 y389 (ji31)).length : Int) then (spec_NetMatrix.l1 kj18 l1 (y389.set ((ji31) : Int).toNat ((rd_L1 y389 (ji31)).set ((ji37) : Int).toNat (wrap64 ((rd (rd_L1 y389 (ji31)) (ji37)) - ((rd_T62 l1 x8_2).f3))))) (wrap64 (x8_2 + 1))) else (none)) = some (r1, r2) := by first | (rw [hy389]; with_reducible exact H) | (have H2_ := (Option.bind_some _ _).symm.trans H; rw [hy389]; with_reducible exact H2_) | (have H2_ := (Option.bind_some _ _).symm.trans H; with_reducible exact H2_) | with_reducible exact H | (rw [hy389]; exact H) | exact H
                                      have Ny389 := Aside0.mk hy389
                                      clear hy389
                                      by_cases c42 : (ji37) < ((rd_L1 y389 (ji31)).length : Int)
                                      · rw [if_pos c42] at H
                                        have c42b0 : decide ((ji37) < ((rd_L1 y389 (ji31)).length : Int)) = true := decide_eq_true c42
                                        clear c42
                                        obtain ⟨y393, hy393⟩ : ∃ y_ : List Int, y_ = ((rd_L1 y389 (ji31)).set ((ji37) : Int).toNat (wrap64 ((rd (rd_L1 y389 (ji31)) (ji37)) - ((rd_T62 l1 x8_2).f3)))) := ⟨_, rfl⟩
                                        replace H : (spec_NetMatrix.l1 kj18 l1 (y389.set ((ji31) : Int).toNat y393) (wrap64 (x8_2 + 1))) = some (r1, r2) := by first | (rw [hy393]; with_reducible exact H) | (have H2_ := (Option.bind_some _ _).symm.trans H; rw [hy393]; with_reducible exact H2_) | (have H2_ := (Option.bind_some _ _).symm.trans H; with_reducible exact H2_) | with_reducible exact H | (rw [hy393]; exact H) | exact H
                                        have Ny393 := Aside0.mk hy393
                                        clear hy393
                                        obtain ⟨y395, hy395⟩ : ∃ y_ : List (List Int), y_ = (y389.set ((ji31) : Int).toNat y393) := ⟨_, rfl⟩
                                        replace H : (spec_NetMatrix.l1 kj18 l1 y395 (wrap64 (x8_2 + 1))) = some (r1, r2) := by first | (rw [hy395]; with_reducible exact H) | (have H2_ := (Option.bind_some _ _).symm.trans H; rw [hy395]; with_reducible exact H2_) | (have H2_ := (Option.bind_some _ _).symm.trans H; with_reducible exact H2_) | with_reducible exact H | (rw [hy395]; exact H) | exact H
                                        have Ny395 := Aside0.mk hy395
                                        clear hy395
                                        have H' := Aside0.mk H
                                        clear H
                                        try go_wp2
                                        have n0_ := Aside0.mk (Kd.S_drew HO_6.out)
                                        have n1_ := Aside0.mk (below_drew1 HB.out)
                                        clear HO_6
                                        clear HB
                                        have HO_6 := n0_
                                        have HB := n1_
                                        clear n0_ n1_
                                        obtain ⟨Ao45, co45, eo45⟩ := Kd.S_slice HO_6.out
                                        (first | subst eo45 | (injection eo45 with f1_ f2_ f3_; have f4_ := f1_.symm; have f5_ := f3_.symm; clear f1_ f2_ f3_; subst f4_; subst f5_))
                                        have p378 : 0 ≤ ((ji31) : Int) := of_decide_eq_true (by first | (with_reducible assumption) | assumption)
                                        have q378 : (ji31) < (x6_18.length : Int) := of_decide_eq_true (by first | (with_reducible assumption) | assumption)
                                        obtain ⟨ad378, A378_0, c378_0, e378, hx378_0, hl378_0, hi378_0⟩ := at_L1 (Kd.S_reads' HO_6.out).2.2 (ji31) p378 q378
                                        cases e378
                                        obtain ⟨ce378, hce378, hMe378, hcc378⟩ := Kd.S_get HO_6.out [] (ji31) p378 (by first | exact q378 | exact of_decide_eq_true (by first | (with_reducible assumption) | assumption) | (have e_ := (Kd.S_reads' HO_6.out).1; omega))
                                        obtain ⟨ve378_0, rfl, ge378_0⟩ := hMe378
                                        have hv378_0 := hcc378 0 _ rfl
                                        rw [Nat.add_zero, show ((Kd.slice 3 (Kd.int .i64))).sz = 1 from rfl, Nat.mul_one] at hv378_0
                                        replace hv378_0 := Option.some.inj (hv378_0.symm.trans hx378_0)
                                        rw [hv378_0] at ge378_0
                                        have HL378_0 := Aside0.mk (show Kd.R (Kd.int .i64) 3 _ _ _ _ (rd_L1 x6_18 (ji31)) from ge378_0)
                                        clear hv378_0 ge378_0
                                        have HX378_0 := Aside0.mk hx378_0
                                        clear hcc378 hce378
                                        have HR378_0 := Aside0.mk hi378_0
                                        have HC378_0 := Aside0.mk hl378_0
                                        clear hi378_0 hl378_0
                                        replace p378 := eq_true p378
                                        replace q378 := eq_true q378
                                        have p379 : 0 ≤ ((ji31) : Int) := of_decide_eq_true (by first | (with_reducible assumption) | assumption)
                                        have q379 : (ji31) < (x6_18.length : Int) := of_decide_eq_true (by first | (with_reducible assumption) | assumption)
                                        obtain ⟨ad379, A379_0, c379_0, e379, hx379_0, hl379_0, hi379_0⟩ := at_L1 (Kd.S_reads' HO_6.out).2.2 (ji31) p379 q379
                                        obtain rfl : ad378 = ad379 := (by injection e379)
                                        obtain ⟨ce379, hce379, hMe379, hcc379⟩ := Kd.S_get HO_6.out [] (ji31) p379 (by first | exact q379 | exact of_decide_eq_true (by first | (with_reducible assumption) | assumption) | (have e_ := (Kd.S_reads' HO_6.out).1; omega))
                                        obtain ⟨ve379_0, rfl, ge379_0⟩ := hMe379
                                        have hv379_0 := hcc379 0 _ rfl
                                        rw [Nat.add_zero, show ((Kd.slice 3 (Kd.int .i64))).sz = 1 from rfl, Nat.mul_one] at hv379_0
                                        replace hv379_0 := Option.some.inj (hv379_0.symm.trans hx379_0)
                                        rw [hv379_0] at ge379_0
                                        have HL379_0 := Aside0.mk (show Kd.R (Kd.int .i64) 3 _ _ _ _ (rd_L1 x6_18 (ji31)) from ge379_0)
                                        clear hv379_0 ge379_0
                                        have HX379_0 := Aside0.mk hx379_0
                                        clear hcc379 hce379
                                        have HR379_0 := Aside0.mk hi379_0
                                        have HC379_0 := Aside0.mk hl379_0
                                        clear hi379_0 hl379_0
                                        replace p379 := eq_true p379
                                        replace q379 := eq_true q379
                                        have ea_ := Option.some.inj (hx378_0.symm.trans hx379_0)
                                        injection ea_ with ea_ en_ ec_
                                        subst ea_
                                        subst ec_
                                        clear en_
                                        have p380 : 0 ≤ ((ji31) : Int) := of_decide_eq_true (by first | (with_reducible assumption) | assumption)
                                        have q380 : (ji31) < ((rd_L1 x6_18 (ji31)).length : Int) := of_decide_eq_true (by first | (with_reducible assumption) | assumption)
                                        obtain ⟨ad380, e380, hx380_0⟩ := Kd.at_int (by repeat (first | (with_reducible exact HR379_0.out) | (with_reducible refine Kd.C_alloc ?_ _) | (with_reducible refine Kd.C_drewN ?_ _) | (with_reducible refine Kd.C_drew ?_) | exact HR379_0.out)) (ji31) p380 q380
                                        cases e380
                                        replace p380 := eq_true p380
                                        replace q380 := eq_true q380
                                        have p35 : 0 ≤ ((ji31) : Int) := of_decide_eq_true (by first | (with_reducible assumption) | assumption)
                                        have q35 : ((ji31) : Int) < (((rd_L1 x6_18 (ji31)).length : Int) : Int) := of_decide_eq_true (by first | (with_reducible assumption) | assumption)
                                        obtain ⟨go35, co35, eo35, gb35, gl35, cl35, HG35⟩ := Kd.R_form HL378_0.out (by omega)
                                        (first | cases eo35 | (injection eo35 with ea_ en_ ec_; (first | subst ea_ | (injection ea_ with ea_; subst ea_)); subst ec_; clear en_))
                                        have GB35 := Aside0.mk gb35
                                        have GG35 := Aside0.mk HG35
                                        clear gb35 gl35 HG35
                                        (first | simp only [add_plain] at hx380_0 | skip)
                                        obtain ⟨hx35_0, hf35_0⟩ := Kd.R_celln 0 HL378_0.out ((ji31) : Int) p35 q35
                                        replace p35 := eq_true p35
                                        replace q35 := eq_true q35
                                        have hq46 : ((ji31) : Int) < (x6_18.length : Int) := (by have h_ : ((ji31) : Int) < ((x6_18.length : Int) : Int) := of_decide_eq_true (by first | (with_reducible assumption) | assumption); first | exact h_ | (have e_ := (Kd.S_reads' HO_6.out).1; omega) | simpa only [List.length_set, List.length_set] using h_)
                                        obtain ⟨oki46, ce46, hcl46, hM46, hcc46, hok46, hbk46⟩ := Kd.S_borrow HO_6.out [] ((ji31) : Int) (of_decide_eq_true (by first | (with_reducible assumption) | assumption)) (by first | exact hq46 | simpa only [List.length_set] using hq46 | exact of_decide_eq_true (by first | (with_reducible assumption) | assumption))
                                        obtain ⟨ve46_0, rfl, ge46_0⟩ := hM46
                                        have hv46 := hcc46 0 _ rfl
                                        rw [Nat.add_zero, show ((Kd.slice 3 (Kd.int .i64))).sz = 1 from rfl, Nat.mul_one] at hv46
                                        replace hv46 := Option.some.inj (hv46.symm.trans HX378_0.out)
                                        subst hv46
                                        clear hcc46 hcl46
                                        replace ge46_0 := (show Kd.R (Kd.int .i64) 3 _ _ _ _ (rd_L1 x6_18 (ji31)) from ge46_0)
                                        have HP46 := Kd.R_putg ge46_0 ((ji31) : Int) (wrap64 ((rd (rd_L1 x6_18 (ji31)) (ji31)) + ((rd_T62 l1 x8_2).f3)))
                                        rw [← Ny381.out] at HP46
                                        have HS46 := hbk46 HP46.2 (fun k_ e_ => by injection e_ with e_; subst e_; exact ge46_0.1 _ rfl) (x' := y381) (Kd.M_row HP46.1)
                                        rw [← Ny383.out] at HS46
                                        have HQ46 := Aside0.mk HS46
                                        clear HP46 HS46 hbk46 hok46
                                        refine start_ (n := 16) (S := fun w' => w'.cell? (ad378.add ((ji31)).toNat) = some (.slice (some ⟨go35, 0, none⟩) (rd_L1 x6_18 (ji31)).length c378_0) ∧ w'.cell? (ad378.add ((ji31)).toNat) = some (.slice (some ⟨go35, 0, none⟩) (rd_L1 x6_18 (ji31)).length c378_0) ∧ w'.cell? ⟨go35, ((ji31)).toNat, none⟩ = some (.int .i64 (rd (rd_L1 x6_18 (ji31)) (ji31)))) (ds := [15]) #[false, false, false, false, false, false, false, false, false, false, false, false, false, false, false, false] (by kernel_rfl) rfl rfl ⟨hx378_0, hx379_0, hx380_0⟩ (fun hHeld => ?_); refine with_tabW spec_NetMatrix.tab17 spec_NetMatrix.bits17 (fun HT_ HW_ => ?_)
                                        generalize wc.drew = w44 at HO_6 HB GG35 HL378_0 HL379_0 HQ46 HR378_0 HR379_0 HX378_0 HX379_0 hf35_0 hx35_0 hx378_0 hx379_0 hx380_0 hHeld ⊢
                                        refine pure_ (i := 0) (N := some 71) (v := ?_) (a' := ?_) #[true, false, false, false, false, false, false, false, false, false, false, false, false, false, false, false] rfl rfl (any_of HT_.out (by kernel_rfl)) (fun _ _ _ h => h) (Or.inl ⟨by rfl, ?_⟩) ?_ ?_
                                        rotate_left
                                        · intro w'
                                          go_simp
                                          with_reducible rfl
                                        rotate_left
                                        · simp only [Act.put, List.setIfInBounds_toArray, List.set_cons_zero, List.set_cons_succ, i64_w, i32_w]
                                          rfl
                                        refine pure_ (i := 1) (N := some 72) (v := ?_) (a' := ?_) #[true, true, false, false, false, false, false, false, false, false, false, false, false, false, false, false] rfl rfl (any_of HT_.out (by kernel_rfl)) (fun _ _ _ h => h) (Or.inl ⟨by rfl, ?_⟩) ?_ ?_
                                        rotate_left
                                        · intro w'
                                          go_simp
                                          with_reducible rfl
                                        rotate_left
                                        · simp only [Act.put, List.setIfInBounds_toArray, List.set_cons_zero, List.set_cons_succ, i64_w, i32_w]
                                          rfl
                                        refine pure_ (i := 2) (N := some 73) (v := ?_) (a' := ?_) #[true, true, true, false, false, false, false, false, false, false, false, false, false, false, false, false] rfl rfl (any_of HT_.out (by kernel_rfl)) (fun _ _ _ h => h) (Or.inl ⟨by rfl, ?_⟩) ?_ ?_
                                        rotate_left
                                        · intro w'
                                          go_simp
                                          with_reducible rfl
                                        rotate_left
                                        · simp only [Act.put, List.setIfInBounds_toArray, List.set_cons_zero, List.set_cons_succ, i64_w, i32_w]
                                          rfl
                                        refine pure_ (i := 4) (N := some 75) (v := ?_) (a' := ?_) #[true, true, true, false, true, false, false, false, false, false, false, false, false, false, false, false] rfl rfl (any_of HT_.out (by kernel_rfl)) (fun _ _ _ h => h) (Or.inl ⟨by rfl, ?_⟩) ?_ ?_
                                        rotate_left
                                        · intro w'
                                          go_simp
                                          with_reducible rfl
                                        rotate_left
                                        · simp only [Act.put, List.setIfInBounds_toArray, List.set_cons_zero, List.set_cons_succ, i64_w, i32_w]
                                          rfl
                                        refine pure_ (i := 5) (N := some 76) (v := ?_) (a' := ?_) #[true, true, true, false, true, true, false, false, false, false, false, false, false, false, false, false] rfl rfl (any_of HT_.out (by kernel_rfl)) (fun _ _ _ h => h) (Or.inl ⟨by rfl, ?_⟩) ?_ ?_
                                        rotate_left
                                        · intro w'
                                          go_simp
                                          with_reducible rfl
                                        rotate_left
                                        · simp only [Act.put, List.setIfInBounds_toArray, List.set_cons_zero, List.set_cons_succ, i64_w, i32_w]
                                          rfl
                                        refine pure_ (i := 6) (N := some 77) (v := ?_) (a' := ?_) #[true, true, true, false, true, true, true, false, false, false, false, false, false, false, false, false] rfl rfl (any_of HT_.out (by kernel_rfl)) (fun _ _ _ h => h) (Or.inl ⟨by rfl, ?_⟩) ?_ ?_
                                        rotate_left
                                        · intro w'
                                          go_simp
                                          with_reducible rfl
                                        rotate_left
                                        · simp only [Act.put, List.setIfInBounds_toArray, List.set_cons_zero, List.set_cons_succ, i64_w, i32_w]
                                          rfl
                                        refine pure_ (i := 7) (N := some 78) (v := ?_) (a' := ?_) #[true, true, true, false, true, true, true, true, false, false, false, false, false, false, false, false] rfl rfl (any_of HT_.out (by kernel_rfl)) (fun _ _ _ h => h) (Or.inl ⟨by rfl, ?_⟩) ?_ ?_
                                        rotate_left
                                        · intro w'
                                          go_simp
                                          with_reducible rfl
                                        rotate_left
                                        · simp only [Act.put, List.setIfInBounds_toArray, List.set_cons_zero, List.set_cons_succ, i64_w, i32_w]
                                          rfl
                                        refine pure_ (i := 9) (N := some 80) (v := ?_) (a' := ?_) #[true, true, true, false, true, true, true, true, false, true, false, false, false, false, false, false] rfl rfl (any_of HT_.out (by kernel_rfl)) (fun _ _ _ h => h) (Or.inl ⟨by rfl, ?_⟩) ?_ ?_
                                        rotate_left
                                        · intro w'
                                          go_simp
                                          with_reducible rfl
                                        rotate_left
                                        · simp only [Act.put, List.setIfInBounds_toArray, List.set_cons_zero, List.set_cons_succ, i64_w, i32_w]
                                          rfl
                                        refine pure_ (i := 12) (N := some 83) (v := ?_) (a' := ?_) #[true, true, true, false, true, true, true, true, false, true, false, false, true, false, false, false] rfl rfl (any_of HT_.out (by kernel_rfl)) (fun _ _ _ h => h) (Or.inl ⟨by rfl, ?_⟩) ?_ ?_
                                        rotate_left
                                        · intro w'
                                          go_simp
                                          with_reducible rfl
                                        rotate_left
                                        · simp only [Act.put, List.setIfInBounds_toArray, List.set_cons_zero, List.set_cons_succ, i64_w, i32_w]
                                          rfl
                                        refine take_ (i := 3) (N := some 74) (v := ?_) (a' := ?_) #[true, true, true, true, true, true, true, true, false, true, false, false, true, false, false, false] rfl rfl (take_ofW HT_.out HW_.out (by kernel_rfl)) (fun _ _ _ h => h) (Or.inl ⟨by rfl, ?_⟩) hHeld ?_ ?_
                                        rotate_left
                                        · rintro w' ⟨s0, s1, s2⟩
                                          go_simp
                                          with_reducible rfl
                                        rotate_left
                                        · simp only [Act.put, List.setIfInBounds_toArray, List.set_cons_zero, List.set_cons_succ, i64_w, i32_w]
                                          rfl
                                        refine take_ (i := 8) (N := some 79) (v := ?_) (a' := ?_) #[true, true, true, true, true, true, true, true, true, true, false, false, true, false, false, false] rfl rfl (take_ofW HT_.out HW_.out (by kernel_rfl)) (fun _ _ _ h => h) (Or.inl ⟨by rfl, ?_⟩) hHeld ?_ ?_
                                        rotate_left
                                        · rintro w' ⟨s0, s1, s2⟩
                                          go_simp
                                          with_reducible rfl
                                        rotate_left
                                        · simp only [Act.put, List.setIfInBounds_toArray, List.set_cons_zero, List.set_cons_succ, i64_w, i32_w]
                                          rfl
                                        refine pure_ (i := 10) (N := some 81) (v := ?_) (a' := ?_) #[true, true, true, true, true, true, true, true, true, true, true, false, true, false, false, false] rfl rfl (any_of HT_.out (by kernel_rfl)) (fun _ _ _ h => h) (Or.inl ⟨by rfl, ?_⟩) ?_ ?_
                                        rotate_left
                                        · intro w'
                                          go_simp
                                          with_reducible rfl
                                        rotate_left
                                        · simp only [Act.put, List.setIfInBounds_toArray, List.set_cons_zero, List.set_cons_succ, i64_w, i32_w]
                                          rfl
                                        refine take_ (i := 11) (N := some 82) (v := ?_) (a' := ?_) #[true, true, true, true, true, true, true, true, true, true, true, true, true, false, false, false] rfl rfl (take_ofW HT_.out HW_.out (by kernel_rfl)) (fun _ _ _ h => h) (Or.inl ⟨by rfl, ?_⟩) hHeld ?_ ?_
                                        rotate_left
                                        · rintro w' ⟨s0, s1, s2⟩
                                          go_simp
                                          with_reducible rfl
                                        rotate_left
                                        · simp only [Act.put, List.setIfInBounds_toArray, List.set_cons_zero, List.set_cons_succ, i64_w, i32_w]
                                          rfl
                                        refine pure_ (i := 13) (N := some 84) (v := ?_) (a' := ?_) #[true, true, true, true, true, true, true, true, true, true, true, true, true, true, false, false] rfl rfl (any_of HT_.out (by kernel_rfl)) (fun _ _ _ h => h) (Or.inl ⟨by rfl, ?_⟩) ?_ ?_
                                        rotate_left
                                        · intro w'
                                          go_simp
                                          with_reducible rfl
                                        rotate_left
                                        · simp only [Act.put, List.setIfInBounds_toArray, List.set_cons_zero, List.set_cons_succ, i64_w, i32_w]
                                          rfl
                                        refine pure_ (i := 14) (N := some 85) (v := ?_) (a' := ?_) #[true, true, true, true, true, true, true, true, true, true, true, true, true, true, true, false] rfl rfl (any_of HT_.out (by kernel_rfl)) (fun _ _ _ h => h) (Or.inl ⟨by rfl, ?_⟩) ?_ ?_
                                        rotate_left
                                        · intro w'
                                          go_simp
                                          with_reducible rfl
                                        rotate_left
                                        · simp only [Act.put, List.setIfInBounds_toArray, List.set_cons_zero, List.set_cons_succ, i64_w, i32_w]
                                          rfl
                                        refine last_ (i := 15) (N := none) #[true, true, true, true, true, true, true, true, true, true, true, true, true, true, true, true] rfl rfl (one_of HT_.out (by kernel_rfl)) (by decide) (fun K hK => ?_)
                                        refine skip_ (w1 := ?_) (by rfl) rfl ?_ ?_
                                        rotate_left
                                        · go_simp
                                          rfl
                                        refine hK.out _ _ ?_
                                        clear hK K
                                        refine done_ (done_of HT_.out (by kernel_rfl)) ?_
                                        try go_wp2
                                        have n0_ : Aside0 (Kd.S (Kd.slice 3 (Kd.int .i64)) 27 (w44.setCell ⟨go35, ((ji31) : Int).toNat, none⟩ (.int .i64 (wrap64 ((rd (rd_L1 x6_18 (ji31)) (ji31)) + ((rd_T62 l1 x8_2).f3))))) w.heap.size (fun _ => True) (.slice (some ad378) x6_18.length co45) y383) := ⟨by (with_reducible repeat (first | apply Kd.S_alloc | apply Kd.S_drewN | apply Kd.S_drew)); exact HQ46.out⟩
                                        have n1_ : Aside0 (Below w.heap.size w (w44.setCell ⟨go35, ((ji31) : Int).toNat, none⟩ (.int .i64 (wrap64 ((rd (rd_L1 x6_18 (ji31)) (ji31)) + ((rd_T62 l1 x8_2).f3)))))) := ⟨by repeat (first | (with_reducible first | exact HB.out | apply below_alloc | apply pw_below_drewN | apply below_drew1 | refine below_set ?_ GB35.out) | exact HB.out)⟩
                                        (try clear HO_6)
                                        (try clear HB)
                                        generalize (w44.setCell ⟨go35, ((ji31) : Int).toNat, none⟩ (.int .i64 (wrap64 ((rd (rd_L1 x6_18 (ji31)) (ji31)) + ((rd_T62 l1 x8_2).f3))))) = w48 at n0_ n1_ ⊢
                                        have HO_6 := n0_
                                        have HB := n1_
                                        clear n0_ n1_
                                        have n0_ := Aside0.mk (Kd.S_drew HO_6.out)
                                        have n1_ := Aside0.mk (below_drew1 HB.out)
                                        clear HO_6
                                        clear HB
                                        have HO_6 := n0_
                                        have HB := n1_
                                        clear n0_ n1_
                                        have p384 : 0 ≤ ((ji37) : Int) := of_decide_eq_true (by first | (with_reducible assumption) | assumption)
                                        have q384 : (ji37) < (y383.length : Int) := (by have h_ : ((ji37) : Int) < ((x6_18.length : Int) : Int) := of_decide_eq_true (by first | (with_reducible assumption) | assumption); first | (have e_ := (Kd.S_reads' HO_6.out).1; omega) | simpa only [Ny383.out, List.length_set] using h_)
                                        have ql384 : (((ji37) : Int) < ((x6_18.length : Int) : Int)) = True := eq_true (of_decide_eq_true (by first | (with_reducible assumption) | assumption))
                                        obtain ⟨ad384, A384_0, c384_0, e384, hx384_0, hl384_0, hi384_0⟩ := at_L1 (Kd.S_reads' HO_6.out).2.2 (ji37) p384 q384
                                        obtain rfl : ad378 = ad384 := (by injection e384)
                                        obtain ⟨ce384, hce384, hMe384, hcc384⟩ := Kd.S_get HO_6.out [] (ji37) p384 (by first | exact q384 | exact of_decide_eq_true (by first | (with_reducible assumption) | assumption) | (have e_ := (Kd.S_reads' HO_6.out).1; omega))
                                        obtain ⟨ve384_0, rfl, ge384_0⟩ := hMe384
                                        have hv384_0 := hcc384 0 _ rfl
                                        rw [Nat.add_zero, show ((Kd.slice 3 (Kd.int .i64))).sz = 1 from rfl, Nat.mul_one] at hv384_0
                                        replace hv384_0 := Option.some.inj (hv384_0.symm.trans hx384_0)
                                        rw [hv384_0] at ge384_0
                                        have HL384_0 := Aside0.mk (show Kd.R (Kd.int .i64) 3 _ _ _ _ (rd_L1 y383 (ji37)) from ge384_0)
                                        clear hv384_0 ge384_0
                                        have HX384_0 := Aside0.mk hx384_0
                                        clear hcc384 hce384
                                        have HR384_0 := Aside0.mk hi384_0
                                        have HC384_0 := Aside0.mk hl384_0
                                        clear hi384_0 hl384_0
                                        replace p384 := eq_true p384
                                        replace q384 := eq_true q384
                                        have p385 : 0 ≤ ((ji37) : Int) := of_decide_eq_true (by first | (with_reducible assumption) | assumption)
                                        have q385 : (ji37) < (y383.length : Int) := (by have h_ : ((ji37) : Int) < ((x6_18.length : Int) : Int) := of_decide_eq_true (by first | (with_reducible assumption) | assumption); first | (have e_ := (Kd.S_reads' HO_6.out).1; omega) | simpa only [Ny383.out, List.length_set] using h_)
                                        have ql385 : (((ji37) : Int) < ((x6_18.length : Int) : Int)) = True := eq_true (of_decide_eq_true (by first | (with_reducible assumption) | assumption))
                                        obtain ⟨ad385, A385_0, c385_0, e385, hx385_0, hl385_0, hi385_0⟩ := at_L1 (Kd.S_reads' HO_6.out).2.2 (ji37) p385 q385
                                        obtain rfl : ad378 = ad385 := (by injection e385)
                                        obtain ⟨ce385, hce385, hMe385, hcc385⟩ := Kd.S_get HO_6.out [] (ji37) p385 (by first | exact q385 | exact of_decide_eq_true (by first | (with_reducible assumption) | assumption) | (have e_ := (Kd.S_reads' HO_6.out).1; omega))
                                        obtain ⟨ve385_0, rfl, ge385_0⟩ := hMe385
                                        have hv385_0 := hcc385 0 _ rfl
                                        rw [Nat.add_zero, show ((Kd.slice 3 (Kd.int .i64))).sz = 1 from rfl, Nat.mul_one] at hv385_0
                                        replace hv385_0 := Option.some.inj (hv385_0.symm.trans hx385_0)
                                        rw [hv385_0] at ge385_0
                                        have HL385_0 := Aside0.mk (show Kd.R (Kd.int .i64) 3 _ _ _ _ (rd_L1 y383 (ji37)) from ge385_0)
                                        clear hv385_0 ge385_0
                                        have HX385_0 := Aside0.mk hx385_0
                                        clear hcc385 hce385
                                        have HR385_0 := Aside0.mk hi385_0
                                        have HC385_0 := Aside0.mk hl385_0
                                        clear hi385_0 hl385_0
                                        replace p385 := eq_true p385
                                        replace q385 := eq_true q385
                                        have ea_ := Option.some.inj (hx384_0.symm.trans hx385_0)
                                        injection ea_ with ea_ en_ ec_
                                        subst ea_
                                        subst ec_
                                        clear en_
                                        have p386 : 0 ≤ ((ji31) : Int) := of_decide_eq_true (by first | (with_reducible assumption) | assumption)
                                        have q386 : (ji31) < ((rd_L1 y383 (ji37)).length : Int) := of_decide_eq_true (by first | (with_reducible assumption) | assumption)
                                        obtain ⟨ad386, e386, hx386_0⟩ := Kd.at_int (by repeat (first | (with_reducible exact HR385_0.out) | (with_reducible refine Kd.C_alloc ?_ _) | (with_reducible refine Kd.C_drewN ?_ _) | (with_reducible refine Kd.C_drew ?_) | exact HR385_0.out)) (ji31) p386 q386
                                        cases e386
                                        replace p386 := eq_true p386
                                        replace q386 := eq_true q386
                                        have p41 : 0 ≤ ((ji31) : Int) := of_decide_eq_true (by first | (with_reducible assumption) | assumption)
                                        have q41 : ((ji31) : Int) < (((rd_L1 y383 (ji37)).length : Int) : Int) := of_decide_eq_true (by first | (with_reducible assumption) | assumption)
                                        obtain ⟨go41, co41, eo41, gb41, gl41, cl41, HG41⟩ := Kd.R_form HL384_0.out (by omega)
                                        (first | cases eo41 | (injection eo41 with ea_ en_ ec_; (first | subst ea_ | (injection ea_ with ea_; subst ea_)); subst ec_; clear en_))
                                        have GB41 := Aside0.mk gb41
                                        have GG41 := Aside0.mk HG41
                                        clear gb41 gl41 HG41
                                        (first | simp only [add_plain] at hx386_0 | skip)
                                        obtain ⟨hx41_0, hf41_0⟩ := Kd.R_celln 0 HL384_0.out ((ji31) : Int) p41 q41
                                        replace p41 := eq_true p41
                                        replace q41 := eq_true q41
                                        have hq50 : ((ji37) : Int) < (y383.length : Int) := (by have h_ : ((ji37) : Int) < ((x6_18.length : Int) : Int) := of_decide_eq_true (by first | (with_reducible assumption) | assumption); first | exact h_ | (have e_ := (Kd.S_reads' HO_6.out).1; omega) | simpa only [Ny383.out, List.length_set] using h_)
                                        obtain ⟨oki50, ce50, hcl50, hM50, hcc50, hok50, hbk50⟩ := Kd.S_borrow HO_6.out [] ((ji37) : Int) (of_decide_eq_true (by first | (with_reducible assumption) | assumption)) (by first | exact hq50 | simpa only [List.length_set] using hq50 | exact of_decide_eq_true (by first | (with_reducible assumption) | assumption))
                                        obtain ⟨ve50_0, rfl, ge50_0⟩ := hM50
                                        have hv50 := hcc50 0 _ rfl
                                        rw [Nat.add_zero, show ((Kd.slice 3 (Kd.int .i64))).sz = 1 from rfl, Nat.mul_one] at hv50
                                        replace hv50 := Option.some.inj (hv50.symm.trans HX384_0.out)
                                        subst hv50
                                        clear hcc50 hcl50
                                        replace ge50_0 := (show Kd.R (Kd.int .i64) 3 _ _ _ _ (rd_L1 y383 (ji37)) from ge50_0)
                                        have HP50 := Kd.R_putg ge50_0 ((ji31) : Int) (wrap64 ((rd (rd_L1 y383 (ji37)) (ji31)) - ((rd_T62 l1 x8_2).f3)))
                                        rw [← Ny387.out] at HP50
                                        have HS50 := hbk50 HP50.2 (fun k_ e_ => by injection e_ with e_; subst e_; exact ge50_0.1 _ rfl) (x' := y387) (Kd.M_row HP50.1)
                                        rw [← Ny389.out] at HS50
                                        have HQ50 := Aside0.mk HS50
                                        clear HP50 HS50 hbk50 hok50
                                        refine start_ (n := 16) (S := fun w' => w'.cell? (ad378.add ((ji37)).toNat) = some (.slice (some ⟨go41, 0, none⟩) (rd_L1 y383 (ji37)).length c384_0) ∧ w'.cell? (ad378.add ((ji37)).toNat) = some (.slice (some ⟨go41, 0, none⟩) (rd_L1 y383 (ji37)).length c384_0) ∧ w'.cell? ⟨go41, ((ji31)).toNat, none⟩ = some (.int .i64 (rd (rd_L1 y383 (ji37)) (ji31)))) (ds := [15]) #[false, false, false, false, false, false, false, false, false, false, false, false, false, false, false, false] (by kernel_rfl) rfl rfl ⟨hx384_0, hx385_0, hx386_0⟩ (fun hHeld => ?_); refine with_tabW spec_NetMatrix.tab19 spec_NetMatrix.bits19 (fun HT_ HW_ => ?_)
                                        generalize w48.drew = w49 at HO_6 HB GG41 HL384_0 HL385_0 HQ46 HQ50 HR384_0 HR385_0 HX384_0 HX385_0 hf41_0 hx384_0 hx385_0 hx386_0 hx41_0 hHeld ⊢
                                        refine pure_ (i := 0) (N := some 92) (v := ?_) (a' := ?_) #[true, false, false, false, false, false, false, false, false, false, false, false, false, false, false, false] rfl rfl (any_of HT_.out (by kernel_rfl)) (fun _ _ _ h => h) (Or.inl ⟨by rfl, ?_⟩) ?_ ?_
                                        rotate_left
                                        · intro w'
                                          go_simp
                                          with_reducible rfl
                                        rotate_left
                                        · simp only [Act.put, List.setIfInBounds_toArray, List.set_cons_zero, List.set_cons_succ, i64_w, i32_w]
                                          rfl
                                        refine pure_ (i := 1) (N := some 93) (v := ?_) (a' := ?_) #[true, true, false, false, false, false, false, false, false, false, false, false, false, false, false, false] rfl rfl (any_of HT_.out (by kernel_rfl)) (fun _ _ _ h => h) (Or.inl ⟨by rfl, ?_⟩) ?_ ?_
                                        rotate_left
                                        · intro w'
                                          go_simp
                                          with_reducible rfl
                                        rotate_left
                                        · simp only [Act.put, List.setIfInBounds_toArray, List.set_cons_zero, List.set_cons_succ, i64_w, i32_w]
                                          rfl
                                        refine pure_ (i := 2) (N := some 94) (v := ?_) (a' := ?_) #[true, true, true, false, false, false, false, false, false, false, false, false, false, false, false, false] rfl rfl (any_of HT_.out (by kernel_rfl)) (fun _ _ _ h => h) (Or.inl ⟨by rfl, ?_⟩) ?_ ?_
                                        rotate_left
                                        · intro w'
                                          go_simp
                                          with_reducible rfl
                                        rotate_left
                                        · simp only [Act.put, List.setIfInBounds_toArray, List.set_cons_zero, List.set_cons_succ, i64_w, i32_w]
                                          rfl
                                        refine pure_ (i := 4) (N := some 96) (v := ?_) (a' := ?_) #[true, true, true, false, true, false, false, false, false, false, false, false, false, false, false, false] rfl rfl (any_of HT_.out (by kernel_rfl)) (fun _ _ _ h => h) (Or.inl ⟨by rfl, ?_⟩) ?_ ?_
                                        rotate_left
                                        · intro w'
                                          go_simp
                                          with_reducible rfl
                                        rotate_left
                                        · simp only [Act.put, List.setIfInBounds_toArray, List.set_cons_zero, List.set_cons_succ, i64_w, i32_w]
                                          rfl
                                        refine pure_ (i := 5) (N := some 97) (v := ?_) (a' := ?_) #[true, true, true, false, true, true, false, false, false, false, false, false, false, false, false, false] rfl rfl (any_of HT_.out (by kernel_rfl)) (fun _ _ _ h => h) (Or.inl ⟨by rfl, ?_⟩) ?_ ?_
                                        rotate_left
                                        · intro w'
                                          go_simp
                                          with_reducible rfl
                                        rotate_left
                                        · simp only [Act.put, List.setIfInBounds_toArray, List.set_cons_zero, List.set_cons_succ, i64_w, i32_w]
                                          rfl
                                        refine pure_ (i := 6) (N := some 98) (v := ?_) (a' := ?_) #[true, true, true, false, true, true, true, false, false, false, false, false, false, false, false, false] rfl rfl (any_of HT_.out (by kernel_rfl)) (fun _ _ _ h => h) (Or.inl ⟨by rfl, ?_⟩) ?_ ?_
                                        rotate_left
                                        · intro w'
                                          go_simp
                                          with_reducible rfl
                                        rotate_left
                                        · simp only [Act.put, List.setIfInBounds_toArray, List.set_cons_zero, List.set_cons_succ, i64_w, i32_w]
                                          rfl
                                        refine pure_ (i := 7) (N := some 99) (v := ?_) (a' := ?_) #[true, true, true, false, true, true, true, true, false, false, false, false, false, false, false, false] rfl rfl (any_of HT_.out (by kernel_rfl)) (fun _ _ _ h => h) (Or.inl ⟨by rfl, ?_⟩) ?_ ?_
                                        rotate_left
                                        · intro w'
                                          go_simp
                                          with_reducible rfl
                                        rotate_left
                                        · simp only [Act.put, List.setIfInBounds_toArray, List.set_cons_zero, List.set_cons_succ, i64_w, i32_w]
                                          rfl
                                        refine pure_ (i := 9) (N := some 101) (v := ?_) (a' := ?_) #[true, true, true, false, true, true, true, true, false, true, false, false, false, false, false, false] rfl rfl (any_of HT_.out (by kernel_rfl)) (fun _ _ _ h => h) (Or.inl ⟨by rfl, ?_⟩) ?_ ?_
                                        rotate_left
                                        · intro w'
                                          go_simp
                                          with_reducible rfl
                                        rotate_left
                                        · simp only [Act.put, List.setIfInBounds_toArray, List.set_cons_zero, List.set_cons_succ, i64_w, i32_w]
                                          rfl
                                        refine pure_ (i := 12) (N := some 104) (v := ?_) (a' := ?_) #[true, true, true, false, true, true, true, true, false, true, false, false, true, false, false, false] rfl rfl (any_of HT_.out (by kernel_rfl)) (fun _ _ _ h => h) (Or.inl ⟨by rfl, ?_⟩) ?_ ?_
                                        rotate_left
                                        · intro w'
                                          go_simp
                                          with_reducible rfl
                                        rotate_left
                                        · simp only [Act.put, List.setIfInBounds_toArray, List.set_cons_zero, List.set_cons_succ, i64_w, i32_w]
                                          rfl
                                        refine take_ (i := 3) (N := some 95) (v := ?_) (a' := ?_) #[true, true, true, true, true, true, true, true, false, true, false, false, true, false, false, false] rfl rfl (take_ofW HT_.out HW_.out (by kernel_rfl)) (fun _ _ _ h => h) (Or.inl ⟨by rfl, ?_⟩) hHeld ?_ ?_
                                        rotate_left
                                        · rintro w' ⟨s0, s1, s2⟩
                                          go_simp
                                          with_reducible rfl
                                        rotate_left
                                        · simp only [Act.put, List.setIfInBounds_toArray, List.set_cons_zero, List.set_cons_succ, i64_w, i32_w]
                                          rfl
                                        refine take_ (i := 8) (N := some 100) (v := ?_) (a' := ?_) #[true, true, true, true, true, true, true, true, true, true, false, false, true, false, false, false] rfl rfl (take_ofW HT_.out HW_.out (by kernel_rfl)) (fun _ _ _ h => h) (Or.inl ⟨by rfl, ?_⟩) hHeld ?_ ?_
                                        rotate_left
                                        · rintro w' ⟨s0, s1, s2⟩
                                          go_simp
                                          with_reducible rfl
                                        rotate_left
                                        · simp only [Act.put, List.setIfInBounds_toArray, List.set_cons_zero, List.set_cons_succ, i64_w, i32_w]
                                          rfl
                                        refine pure_ (i := 10) (N := some 102) (v := ?_) (a' := ?_) #[true, true, true, true, true, true, true, true, true, true, true, false, true, false, false, false] rfl rfl (any_of HT_.out (by kernel_rfl)) (fun _ _ _ h => h) (Or.inl ⟨by rfl, ?_⟩) ?_ ?_
                                        rotate_left
                                        · intro w'
                                          go_simp
                                          with_reducible rfl
                                        rotate_left
                                        · simp only [Act.put, List.setIfInBounds_toArray, List.set_cons_zero, List.set_cons_succ, i64_w, i32_w]
                                          rfl
                                        refine take_ (i := 11) (N := some 103) (v := ?_) (a' := ?_) #[true, true, true, true, true, true, true, true, true, true, true, true, true, false, false, false] rfl rfl (take_ofW HT_.out HW_.out (by kernel_rfl)) (fun _ _ _ h => h) (Or.inl ⟨by rfl, ?_⟩) hHeld ?_ ?_
                                        rotate_left
                                        · rintro w' ⟨s0, s1, s2⟩
                                          go_simp
                                          with_reducible rfl
                                        rotate_left
                                        · simp only [Act.put, List.setIfInBounds_toArray, List.set_cons_zero, List.set_cons_succ, i64_w, i32_w]
                                          rfl
                                        refine pure_ (i := 13) (N := some 105) (v := ?_) (a' := ?_) #[true, true, true, true, true, true, true, true, true, true, true, true, true, true, false, false] rfl rfl (any_of HT_.out (by kernel_rfl)) (fun _ _ _ h => h) (Or.inl ⟨by rfl, ?_⟩) ?_ ?_
                                        rotate_left
                                        · intro w'
                                          go_simp
                                          with_reducible rfl
                                        rotate_left
                                        · simp only [Act.put, List.setIfInBounds_toArray, List.set_cons_zero, List.set_cons_succ, i64_w, i32_w]
                                          rfl
                                        refine pure_ (i := 14) (N := some 106) (v := ?_) (a' := ?_) #[true, true, true, true, true, true, true, true, true, true, true, true, true, true, true, false] rfl rfl (any_of HT_.out (by kernel_rfl)) (fun _ _ _ h => h) (Or.inl ⟨by rfl, ?_⟩) ?_ ?_
                                        rotate_left
                                        · intro w'
                                          go_simp
                                          with_reducible rfl
                                        rotate_left
                                        · simp only [Act.put, List.setIfInBounds_toArray, List.set_cons_zero, List.set_cons_succ, i64_w, i32_w]
                                          rfl
                                        refine last_ (i := 15) (N := none) #[true, true, true, true, true, true, true, true, true, true, true, true, true, true, true, true] rfl rfl (one_of HT_.out (by kernel_rfl)) (by decide) (fun K hK => ?_)
                                        refine skip_ (w1 := ?_) (by rfl) rfl ?_ ?_
                                        rotate_left
                                        · go_simp
                                          rfl
                                        refine hK.out _ _ ?_
                                        clear hK K
                                        refine done_ (done_of HT_.out (by kernel_rfl)) ?_
                                        try go_wp2
                                        have n0_ : Aside0 (Kd.S (Kd.slice 3 (Kd.int .i64)) 27 (w49.setCell ⟨go41, ((ji31) : Int).toNat, none⟩ (.int .i64 (wrap64 ((rd (rd_L1 y383 (ji37)) (ji31)) - ((rd_T62 l1 x8_2).f3))))) w.heap.size (fun _ => True) (.slice (some ad378) x6_18.length co45) y389) := ⟨by (with_reducible repeat (first | apply Kd.S_alloc | apply Kd.S_drewN | apply Kd.S_drew)); exact HQ50.out⟩
                                        have n1_ : Aside0 (Below w.heap.size w (w49.setCell ⟨go41, ((ji31) : Int).toNat, none⟩ (.int .i64 (wrap64 ((rd (rd_L1 y383 (ji37)) (ji31)) - ((rd_T62 l1 x8_2).f3)))))) := ⟨by repeat (first | (with_reducible first | exact HB.out | apply below_alloc | apply pw_below_drewN | apply below_drew1 | refine below_set ?_ GB41.out) | exact HB.out)⟩
                                        (try clear HO_6)
                                        (try clear HB)
                                        generalize (w49.setCell ⟨go41, ((ji31) : Int).toNat, none⟩ (.int .i64 (wrap64 ((rd (rd_L1 y383 (ji37)) (ji31)) - ((rd_T62 l1 x8_2).f3))))) = w52 at n0_ n1_ ⊢
                                        have HO_6 := n0_
                                        have HB := n1_
                                        clear n0_ n1_
                                        have n0_ := Aside0.mk (Kd.S_drew HO_6.out)
                                        have n1_ := Aside0.mk (below_drew1 HB.out)
                                        clear HO_6
                                        clear HB
                                        have HO_6 := n0_
                                        have HB := n1_
                                        clear n0_ n1_
                                        have p390 : 0 ≤ ((ji31) : Int) := of_decide_eq_true (by first | (with_reducible assumption) | assumption)
                                        have q390 : (ji31) < (y389.length : Int) := (by have h_ : ((ji31) : Int) < ((x6_18.length : Int) : Int) := of_decide_eq_true (by first | (with_reducible assumption) | assumption); first | (have e_ := (Kd.S_reads' HO_6.out).1; omega) | simpa only [Ny383.out, Ny389.out, List.length_set] using h_)
                                        have ql390 : (((ji31) : Int) < ((x6_18.length : Int) : Int)) = True := eq_true (of_decide_eq_true (by first | (with_reducible assumption) | assumption))
                                        obtain ⟨ad390, A390_0, c390_0, e390, hx390_0, hl390_0, hi390_0⟩ := at_L1 (Kd.S_reads' HO_6.out).2.2 (ji31) p390 q390
                                        obtain rfl : ad378 = ad390 := (by injection e390)
                                        obtain ⟨ce390, hce390, hMe390, hcc390⟩ := Kd.S_get HO_6.out [] (ji31) p390 (by first | exact q390 | exact of_decide_eq_true (by first | (with_reducible assumption) | assumption) | (have e_ := (Kd.S_reads' HO_6.out).1; omega))
                                        obtain ⟨ve390_0, rfl, ge390_0⟩ := hMe390
                                        have hv390_0 := hcc390 0 _ rfl
                                        rw [Nat.add_zero, show ((Kd.slice 3 (Kd.int .i64))).sz = 1 from rfl, Nat.mul_one] at hv390_0
                                        replace hv390_0 := Option.some.inj (hv390_0.symm.trans hx390_0)
                                        rw [hv390_0] at ge390_0
                                        have HL390_0 := Aside0.mk (show Kd.R (Kd.int .i64) 3 _ _ _ _ (rd_L1 y389 (ji31)) from ge390_0)
                                        clear hv390_0 ge390_0
                                        have HX390_0 := Aside0.mk hx390_0
                                        clear hcc390 hce390
                                        have HR390_0 := Aside0.mk hi390_0
                                        have HC390_0 := Aside0.mk hl390_0
                                        clear hi390_0 hl390_0
                                        replace p390 := eq_true p390
                                        replace q390 := eq_true q390
                                        have p391 : 0 ≤ ((ji31) : Int) := of_decide_eq_true (by first | (with_reducible assumption) | assumption)
                                        have q391 : (ji31) < (y389.length : Int) := (by have h_ : ((ji31) : Int) < ((x6_18.length : Int) : Int) := of_decide_eq_true (by first | (with_reducible assumption) | assumption); first | (have e_ := (Kd.S_reads' HO_6.out).1; omega) | simpa only [Ny383.out, Ny389.out, List.length_set] using h_)
                                        have ql391 : (((ji31) : Int) < ((x6_18.length : Int) : Int)) = True := eq_true (of_decide_eq_true (by first | (with_reducible assumption) | assumption))
                                        obtain ⟨ad391, A391_0, c391_0, e391, hx391_0, hl391_0, hi391_0⟩ := at_L1 (Kd.S_reads' HO_6.out).2.2 (ji31) p391 q391
                                        obtain rfl : ad378 = ad391 := (by injection e391)
                                        obtain ⟨ce391, hce391, hMe391, hcc391⟩ := Kd.S_get HO_6.out [] (ji31) p391 (by first | exact q391 | exact of_decide_eq_true (by first | (with_reducible assumption) | assumption) | (have e_ := (Kd.S_reads' HO_6.out).1; omega))
                                        obtain ⟨ve391_0, rfl, ge391_0⟩ := hMe391
                                        have hv391_0 := hcc391 0 _ rfl
                                        rw [Nat.add_zero, show ((Kd.slice 3 (Kd.int .i64))).sz = 1 from rfl, Nat.mul_one] at hv391_0
                                        replace hv391_0 := Option.some.inj (hv391_0.symm.trans hx391_0)
                                        rw [hv391_0] at ge391_0
                                        have HL391_0 := Aside0.mk (show Kd.R (Kd.int .i64) 3 _ _ _ _ (rd_L1 y389 (ji31)) from ge391_0)
                                        clear hv391_0 ge391_0
                                        have HX391_0 := Aside0.mk hx391_0
                                        clear hcc391 hce391
                                        have HR391_0 := Aside0.mk hi391_0
                                        have HC391_0 := Aside0.mk hl391_0
                                        clear hi391_0 hl391_0
                                        replace p391 := eq_true p391
                                        replace q391 := eq_true q391
                                        have ea_ := Option.some.inj (hx390_0.symm.trans hx391_0)
                                        injection ea_ with ea_ en_ ec_
                                        subst ea_
                                        subst ec_
                                        clear en_
                                        have p392 : 0 ≤ ((ji37) : Int) := of_decide_eq_true (by first | (with_reducible assumption) | assumption)
                                        have q392 : (ji37) < ((rd_L1 y389 (ji31)).length : Int) := of_decide_eq_true (by first | (with_reducible assumption) | assumption)
                                        obtain ⟨ad392, e392, hx392_0⟩ := Kd.at_int (by repeat (first | (with_reducible exact HR391_0.out) | (with_reducible refine Kd.C_alloc ?_ _) | (with_reducible refine Kd.C_drewN ?_ _) | (with_reducible refine Kd.C_drew ?_) | exact HR391_0.out)) (ji37) p392 q392
                                        cases e392
                                        replace p392 := eq_true p392
                                        replace q392 := eq_true q392
                                        have p43 : 0 ≤ ((ji37) : Int) := of_decide_eq_true (by first | (with_reducible assumption) | assumption)
                                        have q43 : ((ji37) : Int) < (((rd_L1 y389 (ji31)).length : Int) : Int) := of_decide_eq_true (by first | (with_reducible assumption) | assumption)
                                        obtain ⟨go43, co43, eo43, gb43, gl43, cl43, HG43⟩ := Kd.R_form HL390_0.out (by omega)
                                        (first | cases eo43 | (injection eo43 with ea_ en_ ec_; (first | subst ea_ | (injection ea_ with ea_; subst ea_)); subst ec_; clear en_))
                                        have GB43 := Aside0.mk gb43
                                        have GG43 := Aside0.mk HG43
                                        clear gb43 gl43 HG43
                                        (first | simp only [add_plain] at hx392_0 | skip)
                                        obtain ⟨hx43_0, hf43_0⟩ := Kd.R_celln 0 HL390_0.out ((ji37) : Int) p43 q43
                                        replace p43 := eq_true p43
                                        replace q43 := eq_true q43
                                        have hq54 : ((ji31) : Int) < (y389.length : Int) := (by have h_ : ((ji31) : Int) < ((x6_18.length : Int) : Int) := of_decide_eq_true (by first | (with_reducible assumption) | assumption); first | exact h_ | (have e_ := (Kd.S_reads' HO_6.out).1; omega) | simpa only [Ny383.out, Ny389.out, List.length_set] using h_)
                                        obtain ⟨oki54, ce54, hcl54, hM54, hcc54, hok54, hbk54⟩ := Kd.S_borrow HO_6.out [] ((ji31) : Int) (of_decide_eq_true (by first | (with_reducible assumption) | assumption)) (by first | exact hq54 | simpa only [List.length_set] using hq54 | exact of_decide_eq_true (by first | (with_reducible assumption) | assumption))
                                        obtain ⟨ve54_0, rfl, ge54_0⟩ := hM54
                                        have hv54 := hcc54 0 _ rfl
                                        rw [Nat.add_zero, show ((Kd.slice 3 (Kd.int .i64))).sz = 1 from rfl, Nat.mul_one] at hv54
                                        replace hv54 := Option.some.inj (hv54.symm.trans HX390_0.out)
                                        subst hv54
                                        clear hcc54 hcl54
                                        replace ge54_0 := (show Kd.R (Kd.int .i64) 3 _ _ _ _ (rd_L1 y389 (ji31)) from ge54_0)
                                        have HP54 := Kd.R_putg ge54_0 ((ji37) : Int) (wrap64 ((rd (rd_L1 y389 (ji31)) (ji37)) - ((rd_T62 l1 x8_2).f3)))
                                        rw [← Ny393.out] at HP54
                                        have HS54 := hbk54 HP54.2 (fun k_ e_ => by injection e_ with e_; subst e_; exact ge54_0.1 _ rfl) (x' := y393) (Kd.M_row HP54.1)
                                        rw [← Ny395.out] at HS54
                                        have HQ54 := Aside0.mk HS54
                                        clear HP54 HS54 hbk54 hok54
                                        refine start_ (n := 16) (S := fun w' => w'.cell? (ad378.add ((ji31)).toNat) = some (.slice (some ⟨go43, 0, none⟩) (rd_L1 y389 (ji31)).length c390_0) ∧ w'.cell? (ad378.add ((ji31)).toNat) = some (.slice (some ⟨go43, 0, none⟩) (rd_L1 y389 (ji31)).length c390_0) ∧ w'.cell? ⟨go43, ((ji37)).toNat, none⟩ = some (.int .i64 (rd (rd_L1 y389 (ji31)) (ji37)))) (ds := [15]) #[false, false, false, false, false, false, false, false, false, false, false, false, false, false, false, false] (by kernel_rfl) rfl rfl ⟨hx390_0, hx391_0, hx392_0⟩ (fun hHeld => ?_); refine with_tabW spec_NetMatrix.tab20 spec_NetMatrix.bits20 (fun HT_ HW_ => ?_)
                                        generalize w52.drew = w53 at HO_6 HB GG43 HL390_0 HL391_0 HQ50 HQ54 HR390_0 HR391_0 HX390_0 HX391_0 hf43_0 hx390_0 hx391_0 hx392_0 hx43_0 hHeld ⊢
                                        refine pure_ (i := 0) (N := some 107) (v := ?_) (a' := ?_) #[true, false, false, false, false, false, false, false, false, false, false, false, false, false, false, false] rfl rfl (any_of HT_.out (by kernel_rfl)) (fun _ _ _ h => h) (Or.inl ⟨by rfl, ?_⟩) ?_ ?_
                                        rotate_left
                                        · intro w'
                                          go_simp
                                          with_reducible rfl
                                        rotate_left
                                        · simp only [Act.put, List.setIfInBounds_toArray, List.set_cons_zero, List.set_cons_succ, i64_w, i32_w]
                                          rfl
                                        refine pure_ (i := 1) (N := some 108) (v := ?_) (a' := ?_) #[true, true, false, false, false, false, false, false, false, false, false, false, false, false, false, false] rfl rfl (any_of HT_.out (by kernel_rfl)) (fun _ _ _ h => h) (Or.inl ⟨by rfl, ?_⟩) ?_ ?_
                                        rotate_left
                                        · intro w'
                                          go_simp
                                          with_reducible rfl
                                        rotate_left
                                        · simp only [Act.put, List.setIfInBounds_toArray, List.set_cons_zero, List.set_cons_succ, i64_w, i32_w]
                                          rfl
                                        refine pure_ (i := 2) (N := some 109) (v := ?_) (a' := ?_) #[true, true, true, false, false, false, false, false, false, false, false, false, false, false, false, false] rfl rfl (any_of HT_.out (by kernel_rfl)) (fun _ _ _ h => h) (Or.inl ⟨by rfl, ?_⟩) ?_ ?_
                                        rotate_left
                                        · intro w'
                                          go_simp
                                          with_reducible rfl
                                        rotate_left
                                        · simp only [Act.put, List.setIfInBounds_toArray, List.set_cons_zero, List.set_cons_succ, i64_w, i32_w]
                                          rfl
                                        refine pure_ (i := 4) (N := some 111) (v := ?_) (a' := ?_) #[true, true, true, false, true, false, false, false, false, false, false, false, false, false, false, false] rfl rfl (any_of HT_.out (by kernel_rfl)) (fun _ _ _ h => h) (Or.inl ⟨by rfl, ?_⟩) ?_ ?_
                                        rotate_left
                                        · intro w'
                                          go_simp
                                          with_reducible rfl
                                        rotate_left
                                        · simp only [Act.put, List.setIfInBounds_toArray, List.set_cons_zero, List.set_cons_succ, i64_w, i32_w]
                                          rfl
                                        refine pure_ (i := 5) (N := some 112) (v := ?_) (a' := ?_) #[true, true, true, false, true, true, false, false, false, false, false, false, false, false, false, false] rfl rfl (any_of HT_.out (by kernel_rfl)) (fun _ _ _ h => h) (Or.inl ⟨by rfl, ?_⟩) ?_ ?_
                                        rotate_left
                                        · intro w'
                                          go_simp
                                          with_reducible rfl
                                        rotate_left
                                        · simp only [Act.put, List.setIfInBounds_toArray, List.set_cons_zero, List.set_cons_succ, i64_w, i32_w]
                                          rfl
                                        refine pure_ (i := 6) (N := some 113) (v := ?_) (a' := ?_) #[true, true, true, false, true, true, true, false, false, false, false, false, false, false, false, false] rfl rfl (any_of HT_.out (by kernel_rfl)) (fun _ _ _ h => h) (Or.inl ⟨by rfl, ?_⟩) ?_ ?_
                                        rotate_left
                                        · intro w'
                                          go_simp
                                          with_reducible rfl
                                        rotate_left
                                        · simp only [Act.put, List.setIfInBounds_toArray, List.set_cons_zero, List.set_cons_succ, i64_w, i32_w]
                                          rfl
                                        refine pure_ (i := 7) (N := some 114) (v := ?_) (a' := ?_) #[true, true, true, false, true, true, true, true, false, false, false, false, false, false, false, false] rfl rfl (any_of HT_.out (by kernel_rfl)) (fun _ _ _ h => h) (Or.inl ⟨by rfl, ?_⟩) ?_ ?_
                                        rotate_left
                                        · intro w'
                                          go_simp
                                          with_reducible rfl
                                        rotate_left
                                        · simp only [Act.put, List.setIfInBounds_toArray, List.set_cons_zero, List.set_cons_succ, i64_w, i32_w]
                                          rfl
                                        refine pure_ (i := 9) (N := some 116) (v := ?_) (a' := ?_) #[true, true, true, false, true, true, true, true, false, true, false, false, false, false, false, false] rfl rfl (any_of HT_.out (by kernel_rfl)) (fun _ _ _ h => h) (Or.inl ⟨by rfl, ?_⟩) ?_ ?_
                                        rotate_left
                                        · intro w'
                                          go_simp
                                          with_reducible rfl
                                        rotate_left
                                        · simp only [Act.put, List.setIfInBounds_toArray, List.set_cons_zero, List.set_cons_succ, i64_w, i32_w]
                                          rfl
                                        refine pure_ (i := 12) (N := some 119) (v := ?_) (a' := ?_) #[true, true, true, false, true, true, true, true, false, true, false, false, true, false, false, false] rfl rfl (any_of HT_.out (by kernel_rfl)) (fun _ _ _ h => h) (Or.inl ⟨by rfl, ?_⟩) ?_ ?_
                                        rotate_left
                                        · intro w'
                                          go_simp
                                          with_reducible rfl
                                        rotate_left
                                        · simp only [Act.put, List.setIfInBounds_toArray, List.set_cons_zero, List.set_cons_succ, i64_w, i32_w]
                                          rfl
                                        refine take_ (i := 3) (N := some 110) (v := ?_) (a' := ?_) #[true, true, true, true, true, true, true, true, false, true, false, false, true, false, false, false] rfl rfl (take_ofW HT_.out HW_.out (by kernel_rfl)) (fun _ _ _ h => h) (Or.inl ⟨by rfl, ?_⟩) hHeld ?_ ?_
                                        rotate_left
                                        · rintro w' ⟨s0, s1, s2⟩
                                          go_simp
                                          with_reducible rfl
                                        rotate_left
                                        · simp only [Act.put, List.setIfInBounds_toArray, List.set_cons_zero, List.set_cons_succ, i64_w, i32_w]
                                          rfl
                                        refine take_ (i := 8) (N := some 115) (v := ?_) (a' := ?_) #[true, true, true, true, true, true, true, true, true, true, false, false, true, false, false, false] rfl rfl (take_ofW HT_.out HW_.out (by kernel_rfl)) (fun _ _ _ h => h) (Or.inl ⟨by rfl, ?_⟩) hHeld ?_ ?_
                                        rotate_left
                                        · rintro w' ⟨s0, s1, s2⟩
                                          go_simp
                                          with_reducible rfl
                                        rotate_left
                                        · simp only [Act.put, List.setIfInBounds_toArray, List.set_cons_zero, List.set_cons_succ, i64_w, i32_w]
                                          rfl
                                        refine pure_ (i := 10) (N := some 117) (v := ?_) (a' := ?_) #[true, true, true, true, true, true, true, true, true, true, true, false, true, false, false, false] rfl rfl (any_of HT_.out (by kernel_rfl)) (fun _ _ _ h => h) (Or.inl ⟨by rfl, ?_⟩) ?_ ?_
                                        rotate_left
                                        · intro w'
                                          go_simp
                                          with_reducible rfl
                                        rotate_left
                                        · simp only [Act.put, List.setIfInBounds_toArray, List.set_cons_zero, List.set_cons_succ, i64_w, i32_w]
                                          rfl
                                        refine take_ (i := 11) (N := some 118) (v := ?_) (a' := ?_) #[true, true, true, true, true, true, true, true, true, true, true, true, true, false, false, false] rfl rfl (take_ofW HT_.out HW_.out (by kernel_rfl)) (fun _ _ _ h => h) (Or.inl ⟨by rfl, ?_⟩) hHeld ?_ ?_
                                        rotate_left
                                        · rintro w' ⟨s0, s1, s2⟩
                                          go_simp
                                          with_reducible rfl
                                        rotate_left
                                        · simp only [Act.put, List.setIfInBounds_toArray, List.set_cons_zero, List.set_cons_succ, i64_w, i32_w]
                                          rfl
                                        refine pure_ (i := 13) (N := some 120) (v := ?_) (a' := ?_) #[true, true, true, true, true, true, true, true, true, true, true, true, true, true, false, false] rfl rfl (any_of HT_.out (by kernel_rfl)) (fun _ _ _ h => h) (Or.inl ⟨by rfl, ?_⟩) ?_ ?_
                                        rotate_left
                                        · intro w'
                                          go_simp
                                          with_reducible rfl
                                        rotate_left
                                        · simp only [Act.put, List.setIfInBounds_toArray, List.set_cons_zero, List.set_cons_succ, i64_w, i32_w]
                                          rfl
                                        refine pure_ (i := 14) (N := some 121) (v := ?_) (a' := ?_) #[true, true, true, true, true, true, true, true, true, true, true, true, true, true, true, false] rfl rfl (any_of HT_.out (by kernel_rfl)) (fun _ _ _ h => h) (Or.inl ⟨by rfl, ?_⟩) ?_ ?_
                                        rotate_left
                                        · intro w'
                                          go_simp
                                          with_reducible rfl
                                        rotate_left
                                        · simp only [Act.put, List.setIfInBounds_toArray, List.set_cons_zero, List.set_cons_succ, i64_w, i32_w]
                                          rfl
                                        refine last_ (i := 15) (N := none) #[true, true, true, true, true, true, true, true, true, true, true, true, true, true, true, true] rfl rfl (one_of HT_.out (by kernel_rfl)) (by decide) (fun K hK => ?_)
                                        refine skip_ (w1 := ?_) (by rfl) rfl ?_ ?_
                                        rotate_left
                                        · go_simp
                                          rfl
                                        refine hK.out _ _ ?_
                                        clear hK K
                                        refine done_ (done_of HT_.out (by kernel_rfl)) ?_
                                        try go_wp2
                                        go_roundg kj18
                                        case measure => have := HK1.out; have := HK2.out; have := HJ18.out; omega
                                        case rel => exact ⟨(y395), (wrap64 (x8_2 + 1)), (by first | rfl | (simp; done) | (simp [*]; done)), H', ⟨by have := HK1.out; have := HK2.out; have := HJ18.out; omega⟩, ⟨by (with_reducible repeat (first | apply Kd.S_alloc | apply Kd.S_drewN | apply Kd.S_drew)); exact HQ54.out⟩, ⟨by repeat (first | (with_reducible first | exact HB.out | apply below_alloc | apply pw_below_drewN | apply below_drew1 | refine below_set ?_ GB43.out) | exact HB.out)⟩⟩
                                      · rw [if_neg c42] at H
                                        exact absurd H (by simp)
                                    · rw [if_neg c40] at H
                                      exact absurd H (by simp)
                                  · rw [if_neg c39] at H
                                    exact absurd H (by simp)
                                · rw [if_neg c38] at H
                                  exact absurd H (by simp)
                              · rw [if_neg c36] at H
                                have c36b0 : decide (0 ≤ (wrap64 (((rd_T62 l1 x8_2).f0) - 1))) = false := decide_eq_false c36
                                clear c36
                                have H' := Aside0.mk H
                                clear H
                                try go_wp2
                                have n0_ := Aside0.mk (Kd.S_drew HO_6.out)
                                have n1_ := Aside0.mk (below_drew1 HB.out)
                                clear HO_6
                                clear HB
                                have HO_6 := n0_
                                have HB := n1_
                                clear n0_ n1_
                                obtain ⟨Ao57, co57, eo57⟩ := Kd.S_slice HO_6.out
                                (first | subst eo57 | (injection eo57 with f1_ f2_ f3_; have f4_ := f1_.symm; have f5_ := f3_.symm; clear f1_ f2_ f3_; subst f4_; subst f5_))
                                have p378 : 0 ≤ ((ji31) : Int) := of_decide_eq_true (by first | (with_reducible assumption) | assumption)
                                have q378 : (ji31) < (x6_18.length : Int) := of_decide_eq_true (by first | (with_reducible assumption) | assumption)
                                obtain ⟨ad378, A378_0, c378_0, e378, hx378_0, hl378_0, hi378_0⟩ := at_L1 (Kd.S_reads' HO_6.out).2.2 (ji31) p378 q378
                                cases e378
                                obtain ⟨ce378, hce378, hMe378, hcc378⟩ := Kd.S_get HO_6.out [] (ji31) p378 (by first | exact q378 | exact of_decide_eq_true (by first | (with_reducible assumption) | assumption) | (have e_ := (Kd.S_reads' HO_6.out).1; omega))
                                obtain ⟨ve378_0, rfl, ge378_0⟩ := hMe378
                                have hv378_0 := hcc378 0 _ rfl
                                rw [Nat.add_zero, show ((Kd.slice 3 (Kd.int .i64))).sz = 1 from rfl, Nat.mul_one] at hv378_0
                                replace hv378_0 := Option.some.inj (hv378_0.symm.trans hx378_0)
                                rw [hv378_0] at ge378_0
                                have HL378_0 := Aside0.mk (show Kd.R (Kd.int .i64) 3 _ _ _ _ (rd_L1 x6_18 (ji31)) from ge378_0)
                                clear hv378_0 ge378_0
                                have HX378_0 := Aside0.mk hx378_0
                                clear hcc378 hce378
                                have HR378_0 := Aside0.mk hi378_0
                                have HC378_0 := Aside0.mk hl378_0
                                clear hi378_0 hl378_0
                                replace p378 := eq_true p378
                                replace q378 := eq_true q378
                                have p379 : 0 ≤ ((ji31) : Int) := of_decide_eq_true (by first | (with_reducible assumption) | assumption)
                                have q379 : (ji31) < (x6_18.length : Int) := of_decide_eq_true (by first | (with_reducible assumption) | assumption)
                                obtain ⟨ad379, A379_0, c379_0, e379, hx379_0, hl379_0, hi379_0⟩ := at_L1 (Kd.S_reads' HO_6.out).2.2 (ji31) p379 q379
                                obtain rfl : ad378 = ad379 := (by injection e379)
                                obtain ⟨ce379, hce379, hMe379, hcc379⟩ := Kd.S_get HO_6.out [] (ji31) p379 (by first | exact q379 | exact of_decide_eq_true (by first | (with_reducible assumption) | assumption) | (have e_ := (Kd.S_reads' HO_6.out).1; omega))
                                obtain ⟨ve379_0, rfl, ge379_0⟩ := hMe379
                                have hv379_0 := hcc379 0 _ rfl
                                rw [Nat.add_zero, show ((Kd.slice 3 (Kd.int .i64))).sz = 1 from rfl, Nat.mul_one] at hv379_0
                                replace hv379_0 := Option.some.inj (hv379_0.symm.trans hx379_0)
                                rw [hv379_0] at ge379_0
                                have HL379_0 := Aside0.mk (show Kd.R (Kd.int .i64) 3 _ _ _ _ (rd_L1 x6_18 (ji31)) from ge379_0)
                                clear hv379_0 ge379_0
                                have HX379_0 := Aside0.mk hx379_0
                                clear hcc379 hce379
                                have HR379_0 := Aside0.mk hi379_0
                                have HC379_0 := Aside0.mk hl379_0
                                clear hi379_0 hl379_0
                                replace p379 := eq_true p379
                                replace q379 := eq_true q379
                                have ea_ := Option.some.inj (hx378_0.symm.trans hx379_0)
                                injection ea_ with ea_ en_ ec_
                                subst ea_
                                subst ec_
                                clear en_
                                have p380 : 0 ≤ ((ji31) : Int) := of_decide_eq_true (by first | (with_reducible assumption) | assumption)
                                have q380 : (ji31) < ((rd_L1 x6_18 (ji31)).length : Int) := of_decide_eq_true (by first | (with_reducible assumption) | assumption)
                                obtain ⟨ad380, e380, hx380_0⟩ := Kd.at_int (by repeat (first | (with_reducible exact HR379_0.out) | (with_reducible refine Kd.C_alloc ?_ _) | (with_reducible refine Kd.C_drewN ?_ _) | (with_reducible refine Kd.C_drew ?_) | exact HR379_0.out)) (ji31) p380 q380
                                cases e380
                                replace p380 := eq_true p380
                                replace q380 := eq_true q380
                                have p35 : 0 ≤ ((ji31) : Int) := of_decide_eq_true (by first | (with_reducible assumption) | assumption)
                                have q35 : ((ji31) : Int) < (((rd_L1 x6_18 (ji31)).length : Int) : Int) := of_decide_eq_true (by first | (with_reducible assumption) | assumption)
                                obtain ⟨go35, co35, eo35, gb35, gl35, cl35, HG35⟩ := Kd.R_form HL378_0.out (by omega)
                                (first | cases eo35 | (injection eo35 with ea_ en_ ec_; (first | subst ea_ | (injection ea_ with ea_; subst ea_)); subst ec_; clear en_))
                                have GB35 := Aside0.mk gb35
                                have GG35 := Aside0.mk HG35
                                clear gb35 gl35 HG35
                                (first | simp only [add_plain] at hx380_0 | skip)
                                obtain ⟨hx35_0, hf35_0⟩ := Kd.R_celln 0 HL378_0.out ((ji31) : Int) p35 q35
                                replace p35 := eq_true p35
                                replace q35 := eq_true q35
                                have hq58 : ((ji31) : Int) < (x6_18.length : Int) := (by have h_ : ((ji31) : Int) < ((x6_18.length : Int) : Int) := of_decide_eq_true (by first | (with_reducible assumption) | assumption); first | exact h_ | (have e_ := (Kd.S_reads' HO_6.out).1; omega) | simpa only [List.length_set, List.length_set] using h_)
                                obtain ⟨oki58, ce58, hcl58, hM58, hcc58, hok58, hbk58⟩ := Kd.S_borrow HO_6.out [] ((ji31) : Int) (of_decide_eq_true (by first | (with_reducible assumption) | assumption)) (by first | exact hq58 | simpa only [List.length_set] using hq58 | exact of_decide_eq_true (by first | (with_reducible assumption) | assumption))
                                obtain ⟨ve58_0, rfl, ge58_0⟩ := hM58
                                have hv58 := hcc58 0 _ rfl
                                rw [Nat.add_zero, show ((Kd.slice 3 (Kd.int .i64))).sz = 1 from rfl, Nat.mul_one] at hv58
                                replace hv58 := Option.some.inj (hv58.symm.trans HX378_0.out)
                                subst hv58
                                clear hcc58 hcl58
                                replace ge58_0 := (show Kd.R (Kd.int .i64) 3 _ _ _ _ (rd_L1 x6_18 (ji31)) from ge58_0)
                                have HP58 := Kd.R_putg ge58_0 ((ji31) : Int) (wrap64 ((rd (rd_L1 x6_18 (ji31)) (ji31)) + ((rd_T62 l1 x8_2).f3)))
                                rw [← Ny381.out] at HP58
                                have HS58 := hbk58 HP58.2 (fun k_ e_ => by injection e_ with e_; subst e_; exact ge58_0.1 _ rfl) (x' := y381) (Kd.M_row HP58.1)
                                rw [← Ny383.out] at HS58
                                have HQ58 := Aside0.mk HS58
                                clear HP58 HS58 hbk58 hok58
                                refine start_ (n := 16) (S := fun w' => w'.cell? (ad378.add ((ji31)).toNat) = some (.slice (some ⟨go35, 0, none⟩) (rd_L1 x6_18 (ji31)).length c378_0) ∧ w'.cell? (ad378.add ((ji31)).toNat) = some (.slice (some ⟨go35, 0, none⟩) (rd_L1 x6_18 (ji31)).length c378_0) ∧ w'.cell? ⟨go35, ((ji31)).toNat, none⟩ = some (.int .i64 (rd (rd_L1 x6_18 (ji31)) (ji31)))) (ds := [15]) #[false, false, false, false, false, false, false, false, false, false, false, false, false, false, false, false] (by kernel_rfl) rfl rfl ⟨hx378_0, hx379_0, hx380_0⟩ (fun hHeld => ?_); refine with_tabW spec_NetMatrix.tab17 spec_NetMatrix.bits17 (fun HT_ HW_ => ?_)
                                generalize wc.drew = w56 at HO_6 HB GG35 HL378_0 HL379_0 HQ58 HR378_0 HR379_0 HX378_0 HX379_0 hf35_0 hx35_0 hx378_0 hx379_0 hx380_0 hHeld ⊢
                                refine pure_ (i := 0) (N := some 71) (v := ?_) (a' := ?_) #[true, false, false, false, false, false, false, false, false, false, false, false, false, false, false, false] rfl rfl (any_of HT_.out (by kernel_rfl)) (fun _ _ _ h => h) (Or.inl ⟨by rfl, ?_⟩) ?_ ?_
                                rotate_left
                                · intro w'
                                  go_simp
                                  with_reducible rfl
                                rotate_left
                                · simp only [Act.put, List.setIfInBounds_toArray, List.set_cons_zero, List.set_cons_succ, i64_w, i32_w]
                                  rfl
                                refine pure_ (i := 1) (N := some 72) (v := ?_) (a' := ?_) #[true, true, false, false, false, false, false, false, false, false, false, false, false, false, false, false] rfl rfl (any_of HT_.out (by kernel_rfl)) (fun _ _ _ h => h) (Or.inl ⟨by rfl, ?_⟩) ?_ ?_
                                rotate_left
                                · intro w'
                                  go_simp
                                  with_reducible rfl
                                rotate_left
                                · simp only [Act.put, List.setIfInBounds_toArray, List.set_cons_zero, List.set_cons_succ, i64_w, i32_w]
                                  rfl
                                refine pure_ (i := 2) (N := some 73) (v := ?_) (a' := ?_) #[true, true, true, false, false, false, false, false, false, false, false, false, false, false, false, false] rfl rfl (any_of HT_.out (by kernel_rfl)) (fun _ _ _ h => h) (Or.inl ⟨by rfl, ?_⟩) ?_ ?_
                                rotate_left
                                · intro w'
                                  go_simp
                                  with_reducible rfl
                                rotate_left
                                · simp only [Act.put, List.setIfInBounds_toArray, List.set_cons_zero, List.set_cons_succ, i64_w, i32_w]
                                  rfl
                                refine pure_ (i := 4) (N := some 75) (v := ?_) (a' := ?_) #[true, true, true, false, true, false, false, false, false, false, false, false, false, false, false, false] rfl rfl (any_of HT_.out (by kernel_rfl)) (fun _ _ _ h => h) (Or.inl ⟨by rfl, ?_⟩) ?_ ?_
                                rotate_left
                                · intro w'
                                  go_simp
                                  with_reducible rfl
                                rotate_left
                                · simp only [Act.put, List.setIfInBounds_toArray, List.set_cons_zero, List.set_cons_succ, i64_w, i32_w]
                                  rfl
                                refine pure_ (i := 5) (N := some 76) (v := ?_) (a' := ?_) #[true, true, true, false, true, true, false, false, false, false, false, false, false, false, false, false] rfl rfl (any_of HT_.out (by kernel_rfl)) (fun _ _ _ h => h) (Or.inl ⟨by rfl, ?_⟩) ?_ ?_
                                rotate_left
                                · intro w'
                                  go_simp
                                  with_reducible rfl
                                rotate_left
                                · simp only [Act.put, List.setIfInBounds_toArray, List.set_cons_zero, List.set_cons_succ, i64_w, i32_w]
                                  rfl
                                refine pure_ (i := 6) (N := some 77) (v := ?_) (a' := ?_) #[true, true, true, false, true, true, true, false, false, false, false, false, false, false, false, false] rfl rfl (any_of HT_.out (by kernel_rfl)) (fun _ _ _ h => h) (Or.inl ⟨by rfl, ?_⟩) ?_ ?_
                                rotate_left
                                · intro w'
                                  go_simp
                                  with_reducible rfl
                                rotate_left
                                · simp only [Act.put, List.setIfInBounds_toArray, List.set_cons_zero, List.set_cons_succ, i64_w, i32_w]
                                  rfl
                                refine pure_ (i := 7) (N := some 78) (v := ?_) (a' := ?_) #[true, true, true, false, true, true, true, true, false, false, false, false, false, false, false, false] rfl rfl (any_of HT_.out (by kernel_rfl)) (fun _ _ _ h => h) (Or.inl ⟨by rfl, ?_⟩) ?_ ?_
                                rotate_left
                                · intro w'
                                  go_simp
                                  with_reducible rfl
                                rotate_left
                                · simp only [Act.put, List.setIfInBounds_toArray, List.set_cons_zero, List.set_cons_succ, i64_w, i32_w]
                                  rfl
                                refine pure_ (i := 9) (N := some 80) (v := ?_) (a' := ?_) #[true, true, true, false, true, true, true, true, false, true, false, false, false, false, false, false] rfl rfl (any_of HT_.out (by kernel_rfl)) (fun _ _ _ h => h) (Or.inl ⟨by rfl, ?_⟩) ?_ ?_
                                rotate_left
                                · intro w'
                                  go_simp
                                  with_reducible rfl
                                rotate_left
                                · simp only [Act.put, List.setIfInBounds_toArray, List.set_cons_zero, List.set_cons_succ, i64_w, i32_w]
                                  rfl
                                refine pure_ (i := 12) (N := some 83) (v := ?_) (a' := ?_) #[true, true, true, false, true, true, true, true, false, true, false, false, true, false, false, false] rfl rfl (any_of HT_.out (by kernel_rfl)) (fun _ _ _ h => h) (Or.inl ⟨by rfl, ?_⟩) ?_ ?_
                                rotate_left
                                · intro w'
                                  go_simp
                                  with_reducible rfl
                                rotate_left
                                · simp only [Act.put, List.setIfInBounds_toArray, List.set_cons_zero, List.set_cons_succ, i64_w, i32_w]
                                  rfl
                                refine take_ (i := 3) (N := some 74) (v := ?_) (a' := ?_) #[true, true, true, true, true, true, true, true, false, true, false, false, true, false, false, false] rfl rfl (take_ofW HT_.out HW_.out (by kernel_rfl)) (fun _ _ _ h => h) (Or.inl ⟨by rfl, ?_⟩) hHeld ?_ ?_
                                rotate_left
                                · rintro w' ⟨s0, s1, s2⟩
                                  go_simp
                                  with_reducible rfl
                                rotate_left
                                · simp only [Act.put, List.setIfInBounds_toArray, List.set_cons_zero, List.set_cons_succ, i64_w, i32_w]
                                  rfl
                                refine take_ (i := 8) (N := some 79) (v := ?_) (a' := ?_) #[true, true, true, true, true, true, true, true, true, true, false, false, true, false, false, false] rfl rfl (take_ofW HT_.out HW_.out (by kernel_rfl)) (fun _ _ _ h => h) (Or.inl ⟨by rfl, ?_⟩) hHeld ?_ ?_
                                rotate_left
                                · rintro w' ⟨s0, s1, s2⟩
                                  go_simp
                                  with_reducible rfl
                                rotate_left
                                · simp only [Act.put, List.setIfInBounds_toArray, List.set_cons_zero, List.set_cons_succ, i64_w, i32_w]
                                  rfl
                                refine pure_ (i := 10) (N := some 81) (v := ?_) (a' := ?_) #[true, true, true, true, true, true, true, true, true, true, true, false, true, false, false, false] rfl rfl (any_of HT_.out (by kernel_rfl)) (fun _ _ _ h => h) (Or.inl ⟨by rfl, ?_⟩) ?_ ?_
                                rotate_left
                                · intro w'
                                  go_simp
                                  with_reducible rfl
                                rotate_left
                                · simp only [Act.put, List.setIfInBounds_toArray, List.set_cons_zero, List.set_cons_succ, i64_w, i32_w]
                                  rfl
                                refine take_ (i := 11) (N := some 82) (v := ?_) (a' := ?_) #[true, true, true, true, true, true, true, true, true, true, true, true, true, false, false, false] rfl rfl (take_ofW HT_.out HW_.out (by kernel_rfl)) (fun _ _ _ h => h) (Or.inl ⟨by rfl, ?_⟩) hHeld ?_ ?_
                                rotate_left
                                · rintro w' ⟨s0, s1, s2⟩
                                  go_simp
                                  with_reducible rfl
                                rotate_left
                                · simp only [Act.put, List.setIfInBounds_toArray, List.set_cons_zero, List.set_cons_succ, i64_w, i32_w]
                                  rfl
                                refine pure_ (i := 13) (N := some 84) (v := ?_) (a' := ?_) #[true, true, true, true, true, true, true, true, true, true, true, true, true, true, false, false] rfl rfl (any_of HT_.out (by kernel_rfl)) (fun _ _ _ h => h) (Or.inl ⟨by rfl, ?_⟩) ?_ ?_
                                rotate_left
                                · intro w'
                                  go_simp
                                  with_reducible rfl
                                rotate_left
                                · simp only [Act.put, List.setIfInBounds_toArray, List.set_cons_zero, List.set_cons_succ, i64_w, i32_w]
                                  rfl
                                refine pure_ (i := 14) (N := some 85) (v := ?_) (a' := ?_) #[true, true, true, true, true, true, true, true, true, true, true, true, true, true, true, false] rfl rfl (any_of HT_.out (by kernel_rfl)) (fun _ _ _ h => h) (Or.inl ⟨by rfl, ?_⟩) ?_ ?_
                                rotate_left
                                · intro w'
                                  go_simp
                                  with_reducible rfl
                                rotate_left
                                · simp only [Act.put, List.setIfInBounds_toArray, List.set_cons_zero, List.set_cons_succ, i64_w, i32_w]
                                  rfl
                                refine last_ (i := 15) (N := none) #[true, true, true, true, true, true, true, true, true, true, true, true, true, true, true, true] rfl rfl (one_of HT_.out (by kernel_rfl)) (by decide) (fun K hK => ?_)
                                refine skip_ (w1 := ?_) (by rfl) rfl ?_ ?_
                                rotate_left
                                · go_simp
                                  rfl
                                refine hK.out _ _ ?_
                                clear hK K
                                refine done_ (done_of HT_.out (by kernel_rfl)) ?_
                                try go_wp2
                                go_roundg kj18
                                case measure => have := HK1.out; have := HK2.out; have := HJ18.out; omega
                                case rel => exact ⟨(y383), (wrap64 (x8_2 + 1)), (by first | rfl | (simp; done) | (simp [*]; done)), H', ⟨by have := HK1.out; have := HK2.out; have := HJ18.out; omega⟩, ⟨by (with_reducible repeat (first | apply Kd.S_alloc | apply Kd.S_drewN | apply Kd.S_drew)); exact HQ58.out⟩, ⟨by repeat (first | (with_reducible first | exact HB.out | apply below_alloc | apply pw_below_drewN | apply below_drew1 | refine below_set ?_ GB35.out) | exact HB.out)⟩⟩
                            · rw [if_neg c34] at H
                              exact absurd H (by simp)
                          · rw [if_neg c33] at H
                            exact absurd H (by simp)
                        · rw [if_neg c32] at H
                          exact absurd H (by simp)
                      · rw [if_neg c30] at H
                        have c30b0 : decide (0 ≤ (wrap64 (((rd_T62 l1 x8_2).f1) - 1))) = false := decide_eq_false c30
                        clear c30
                        by_cases c60 : (wrap64 (((rd_T62 l1 x8_2).f0) - 1)) ≥ 0
                        · rw [if_pos c60] at H
                          have c60b0 : decide (0 ≤ (wrap64 (((rd_T62 l1 x8_2).f0) - 1))) = true := decide_eq_true c60
                          clear c60
                          have H' := Aside0.mk H
                          clear H
                          go_wp2
                          go_roundg kj18
                          case measure => have := HK1.out; have := HK2.out; have := HJ18.out; omega
                          case rel => exact ⟨(x6_18), (wrap64 (x8_2 + 1)), (by first | rfl | (simp; done) | (simp [*]; done)), H', ⟨by have := HK1.out; have := HK2.out; have := HJ18.out; omega⟩, ⟨by (with_reducible repeat (first | apply Kd.S_alloc | apply Kd.S_drewN | apply Kd.S_drew)); exact HO_6.out⟩, ⟨by repeat (first | (with_reducible first | exact HB.out | apply below_alloc | apply pw_below_drewN | apply below_drew1) | exact HB.out)⟩⟩
                        · rw [if_neg c60] at H
                          have c60b0 : decide (0 ≤ (wrap64 (((rd_T62 l1 x8_2).f0) - 1))) = false := decide_eq_false c60
                          clear c60
                          have H' := Aside0.mk H
                          clear H
                          go_wp2
                          go_roundg kj18
                          case measure => have := HK1.out; have := HK2.out; have := HJ18.out; omega
                          case rel => exact ⟨(x6_18), (wrap64 (x8_2 + 1)), (by first | rfl | (simp; done) | (simp [*]; done)), H', ⟨by have := HK1.out; have := HK2.out; have := HJ18.out; omega⟩, ⟨by (with_reducible repeat (first | apply Kd.S_alloc | apply Kd.S_drewN | apply Kd.S_drew)); exact HO_6.out⟩, ⟨by repeat (first | (with_reducible first | exact HB.out | apply below_alloc | apply pw_below_drewN | apply below_drew1) | exact HB.out)⟩⟩
                · rw [if_neg c18] at H
                  exact absurd H (by simp)
              · rw [if_neg c17] at H
                have c17b0 : decide (x8_2 < (l1.length : Int)) = false := decide_eq_false c17
                clear c17
                simp only [Option.some.injEq, Prod.mk.injEq] at H
                obtain ⟨rfl, rfl⟩ := H
                go_wp2
                go_ret2
                exact ⟨_, by first | rfl | (simp [errW_none, errW_some] <;> rfl) | (simp [*, errW_none, errW_some] <;> rfl), by (with_reducible repeat (first | apply Kd.S_alloc | apply Kd.S_drewN | apply Kd.S_drew)); exact HO_6.out, by repeat (first | (with_reducible first | exact HB.out | apply below_alloc | apply pw_below_drewN | apply below_drew1) | exact HB.out)⟩
  · replace c4 := Bool.eq_false_iff.mpr c4
    subst c4
    have H1 : (some (y359, false)) = some (r1, r2) := by rw [if_neg (show ¬ (false = true) by decide)] at H; exact H
    clear H
    have H := H1
    clear H1
    simp only [Option.some.injEq, Prod.mk.injEq] at H
    obtain ⟨rfl, rfl⟩ := H
    go_enter Try.func30, Try.ntmps30
    go_wp2_with (first | ((with_reducible refine gate_dst (N := 12) rfl ?_); refine Kd.S_lit (Kd.slice 3 (Kd.int .i64)) _ 27 ?hg (N := 12) ?hd (xs := ([] : List (List Int))) (inner := []) (ok := fun _ => True) (okp := fun _ => True) ?hr ?hp (fun _ hk => hk) trivial (Below.refl _ _) (Nat.le_refl _) (by simp) ?_; (case hd => rfl); (case hg => rfl); (case hr => first | (go_simp; done) | (go_simp; rfl)); (case hp => exact (Reps.none _ _)); intro v360 w61 ho62 hb hg_ hnew_; clear hg_ hnew_; (first | rw [← Ny359.out] at ho62 | (simp only [Int.reduceToNat] at ho62; rw [← Ny359.out] at ho62)); have n0_ := Aside0.mk (Kd.S_lower ho62 (below_size (by repeat (first | (with_reducible first | exact HB.out | apply below_alloc | apply pw_below_drewN | apply below_drew1) | exact HB.out)))); have n1_ := Aside0.mk (below_step (by repeat (first | (with_reducible first | exact HB.out | apply below_alloc | apply pw_below_drewN | apply below_drew1) | exact HB.out)) hb); clear HB; have HO361 := n0_; have HB := n1_; clear n0_ n1_; clear hb ho62) | ((with_reducible refine gate_callee (f := 46) rfl ?_); refine goesL_ (some 15) rfl rfl Try.func46 (by kernel_rfl) rfl #[.int .i64 a0, .slice A1 l1.length c1] rfl (by (try simp only [List.map_toArray, List.map_cons, List.map_nil]); first | done | rfl | (simp only [List.length_drop, List.length_take]; rfl)) ?_; (with_reducible refine (spec_NetValid.calls k a0 _ _ l1 false _ ?side1 ?side2 A3.out).mono ?_); (case side1 => repeat (first | exact (Kd.C_below HR1.out HB.out) | (with_reducible refine Kd.C_alloc ?_ _) | (with_reducible refine Kd.C_drewN ?_ _) | (with_reducible refine Kd.C_drew ?_))); (case side2 => exact HC1.out); rintro e w63 ⟨rfl, hb⟩; refine ⟨_, rfl, ?_⟩; have n0_ := Aside0.mk (Kd.S_below (by (with_reducible repeat (first | apply Kd.S_alloc | apply Kd.S_drewN | apply Kd.S_drew)); exact HO361.out) hb); have n1_ := Aside0.mk (below_step (by repeat (first | (with_reducible first | exact HB.out | apply below_alloc | apply pw_below_drewN | apply below_drew1) | exact HB.out)) hb); clear HO361; clear HB; have HO361 := n0_; have HB := n1_; clear n0_ n1_; (try clear hb); (try clear hb2); (try clear hk); (try clear hi)))
    go_ret2
    exact ⟨_, by first | rfl | (simp [errW_none, errW_some] <;> rfl) | (simp [*, errW_none, errW_some] <;> rfl), by (with_reducible repeat (first | apply Kd.S_alloc | apply Kd.S_drewN | apply Kd.S_drew)); exact HO361.out, by repeat (first | (with_reducible first | exact HB.out | apply below_alloc | apply pw_below_drewN | apply below_drew1) | exact HB.out)⟩

end Go.Proofs.Ytimhiijedmfeaaa.Q
