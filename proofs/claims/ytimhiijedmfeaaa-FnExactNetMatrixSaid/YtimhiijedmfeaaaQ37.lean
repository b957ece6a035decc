/- Functions of the translation as plain Lean functions, each with a proof that the Go code comes to its answers; written by a program of the prover's (a changed copy of the kit's printer). -/
import Derived.Test.YtimhiijedmfeaaaQ0
import Derived.Test.YtimhiijedmfeaaaQ27
namespace Go.Proofs.Ytimhiijedmfeaaa.Q
open Go.RowKit Go.Proofs.YtimhiijedmfeaaaW.PrintWords Go.Proofs.YtimhiijedmfeaaaW.PrintLast Go.Proofs.YtimhiijedmfeaaaW.PrintMore
attribute [local go_sem] max2_int min2_int max_two min_two max_three min_three max_four min_four   -- for this text's walks alone
set_option linter.unusedVariables false
set_option linter.unusedSimpArgs false

/-! ### impl_NetSource: function 36 -/
def impl_NetSource.l0 : Nat → List Int → List (S62) → Int → Int → Option (List Int × Bool)
  | 0, _, _, _, _ => none
  | k + 1, x6, x17, x18, x19 => if x19 < x18 then (if 0 ≤ x19 then (if x19 < (x17.length : Int) then (if ((rd_T62 x17 x19).f1) > 0 then (if 0 ≤ (wrap64 (((rd_T62 x17 x19).f1) - 1)) then (if (wrap64 (((rd_T62 x17 x19).f1) - 1)) < (x6.length : Int) then ((some (x6.set ((wrap64 (((rd_T62 x17 x19).f1) - 1)) : Int).toNat (wrap64 ((rd x6 (wrap64 (((rd_T62 x17 x19).f1) - 1))) + (wrap64 (((rd_T62 x17 x19).f3) * ((rd_T62 x17 x19).f2))))) : List Int)).bind fun y540 => (if ((rd_T62 x17 x19).f0) > 0 then (if 0 ≤ (wrap64 (((rd_T62 x17 x19).f0) - 1)) then (if (wrap64 (((rd_T62 x17 x19).f0) - 1)) < (x6.length : Int) then (impl_NetSource.l0 k (y540.set ((wrap64 (((rd_T62 x17 x19).f0) - 1)) : Int).toNat (wrap64 ((rd y540 (wrap64 (((rd_T62 x17 x19).f0) - 1))) - (wrap64 (((rd_T62 x17 x19).f3) * ((rd_T62 x17 x19).f2)))))) x17 x18 (wrap64 (x19 + 1))) else (none)) else (none)) else (impl_NetSource.l0 k y540 x17 x18 (wrap64 (x19 + 1))))) else (none)) else (none)) else (if ((rd_T62 x17 x19).f0) > 0 then (if 0 ≤ (wrap64 (((rd_T62 x17 x19).f0) - 1)) then (if (wrap64 (((rd_T62 x17 x19).f0) - 1)) < (x6.length : Int) then (impl_NetSource.l0 k (x6.set ((wrap64 (((rd_T62 x17 x19).f0) - 1)) : Int).toNat (wrap64 ((rd x6 (wrap64 (((rd_T62 x17 x19).f0) - 1))) - (wrap64 (((rd_T62 x17 x19).f3) * ((rd_T62 x17 x19).f2)))))) x17 x18 (wrap64 (x19 + 1))) else (none)) else (none)) else (impl_NetSource.l0 k x6 x17 x18 (wrap64 (x19 + 1))))) else (none)) else (none)) else (some (x6, true))
def impl_NetSource.f (k : Nat) (a0 : Int) (l1 : List (S62)) : Option (List Int × Bool) := (impl_NetValid.f k a0 l1).bind fun t530 => (if t530 = true then (if 0 ≤ (wrap64 (a0 - 1)) then (if (wrap64 (a0 - 1) : Int).toNat ≤ 35184372088832 then (impl_NetSource.l0 k (List.replicate (wrap64 (a0 - 1) : Int).toNat 0) l1 (l1.length : Int) 0) else (none)) else (none)) else (some ((([] : List Int)), false)))
theorem impl_NetSource.mono_l : ∀ k, (∀ y0 y1 y2 y3, LeO (impl_NetSource.l0 k y0 y1 y2 y3) (impl_NetSource.l0 (k + 1) y0 y1 y2 y3))
  | 0 => fun _ _ _ _ r h => by simp [impl_NetSource.l0] at h
  | k + 1 => by
    have ih0 := impl_NetSource.mono_l k
    · intro y0 y1 y2 y3
      unfold impl_NetSource.l0
      repeat' first
      | (with_reducible exact ih0 _ _ _ _)
      | (with_reducible exact impl_NetValid.mono _ _ _)
      | (with_reducible exact LeO.refl _)
      | (with_reducible exact LeO.none _)
      | (with_reducible refine LeO.ite ?_ ?_)
      | (with_reducible refine LeO.bind ?_ (fun _ => ?_))
      | exact ih0 _ _ _ _
      | exact impl_NetValid.mono _ _ _
      | exact LeO.none _
      | refine LeO.ite ?_ ?_
      | refine LeO.bind ?_ (fun _ => ?_)
theorem impl_NetSource.mono : ∀ a0 a1 k, LeO (impl_NetSource.f k a0 a1) (impl_NetSource.f (k + 1) a0 a1) := by
  intro a0 a1 k
  have ih0 := impl_NetSource.mono_l k
  unfold impl_NetSource.f
  repeat' first
      | (with_reducible exact ih0 _ _ _ _)
      | (with_reducible exact impl_NetValid.mono _ _ _)
      | (with_reducible exact LeO.refl _)
      | (with_reducible exact LeO.none _)
      | (with_reducible refine LeO.ite ?_ ?_)
      | (with_reducible refine LeO.bind ?_ (fun _ => ?_))
      | exact ih0 _ _ _ _
      | exact impl_NetValid.mono _ _ _
      | exact LeO.none _
      | refine LeO.ite ?_ ?_
      | refine LeO.bind ?_ (fun _ => ?_)
def impl_NetSource.T8 : Bool × List (List Nat × List Nat) := (true, [([], []), ([], []), ([1], [1]), ([2], [2]), ([0, 3], [0, 3]), ([4], [4]), ([], []), ([6], [6]), ([], []), ([8], [8]), ([7, 9], [7, 9]), ([5, 10], [5, 10]), ([0, 3, 0, 1, 2, 3, 4, 5, 6, 7, 8, 9, 10, 11], [0, 3]), ([12, 11, 0, 1, 2, 3, 4, 5, 6, 7, 8, 9, 10, 11], [11, 12])])
def impl_NetSource.B8 : List Nat := [0, 0, 2, 6, 15, 31, 0, 64, 0, 256, 960, 2047, 4095, 8191]
theorem impl_NetSource.tab8 : rtab .any (opsOf Try.f36 8) = impl_NetSource.T8 := by kernel_rfl
theorem impl_NetSource.bits8 : waitsOk impl_NetSource.T8.2 impl_NetSource.B8 = true := by kernel_rfl
def impl_NetSource.T10 : Bool × List (List Nat × List Nat) := (true, [([], []), ([], []), ([1], [1]), ([2], [2]), ([0, 3], [0, 3]), ([4], [4]), ([], []), ([6], [6]), ([], []), ([8], [8]), ([7, 9], [7, 9]), ([5, 10], [5, 10]), ([0, 3, 0, 1, 2, 3, 4, 5, 6, 7, 8, 9, 10, 11], [0, 3]), ([12, 11, 0, 1, 2, 3, 4, 5, 6, 7, 8, 9, 10, 11], [11, 12])])
def impl_NetSource.B10 : List Nat := [0, 0, 2, 6, 15, 31, 0, 64, 0, 256, 960, 2047, 4095, 8191]
theorem impl_NetSource.tab10 : rtab .any (opsOf Try.f36 10) = impl_NetSource.T10 := by kernel_rfl
theorem impl_NetSource.bits10 : waitsOk impl_NetSource.T10.2 impl_NetSource.B10 = true := by kernel_rfl
set_option maxHeartbeats 8000000 in
set_option maxRecDepth 100000 in
theorem impl_NetSource.calls (k : Nat) (a0 : Int) (A1 : Option Addr) (c1 : Nat) (l1 : List (S62)) (r1 : List Int) (r2 : Bool) (w : World) (hr1 : Kd.C k62 w A1 l1.length l1) (hc1 : l1.length ≤ c1) (h : impl_NetSource.f k a0 l1 = some (r1, r2)) :
    Calls Try.prog 36 #[.int .i64 a0, .slice A1 l1.length c1] w fun e w' => ∃ v0_ : Value, e = .returned (.tuple #[v0_, .bool r2]) ∧ Kd.R (Kd.int .i64) 3 w' w.heap.size (fun _ => True) v0_ r1 ∧ Below w.heap.size w w' := by
  have hu62 := Try.underlying62
  have HR1 := Aside0.mk hr1
  have HC1 := Aside0.mk hc1
  clear hr1 hc1
  have HB := Aside0.mk (Below.refl w.heap.size w)
  have H : ((impl_NetValid.f k a0 l1).bind fun t530 => (if t530 = true then (if 0 ≤ (wrap64 (a0 - 1)) then (if (wrap64 (a0 - 1) : Int).toNat ≤ 35184372088832 then (impl_NetSource.l0 k (List.replicate (wrap64 (a0 - 1) : Int).toNat 0) l1 (l1.length : Int) 0) else (none)) else (none)) else (some ((([] : List Int)), false)))) = some (r1, r2) := h
  clear h
  replace H := Option.bind_eq_some_iff.mp H
  obtain ⟨t530, A30, H⟩ := H
  replace H : (if t530 = true then (if 0 ≤ (wrap64 (a0 - 1)) then (if (wrap64 (a0 - 1) : Int).toNat ≤ 35184372088832 then (impl_NetSource.l0 k (List.replicate (wrap64 (a0 - 1) : Int).toNat 0) l1 (l1.length : Int) 0) else (none)) else (none)) else (some ((([] : List Int)), false))) = some (r1, r2) := H
  have A3 := Aside0.mk A30
  clear A30
  by_cases c4 : t530 = true
  · subst c4
    have H1 : (if 0 ≤ (wrap64 (a0 - 1)) then (if (wrap64 (a0 - 1) : Int).toNat ≤ 35184372088832 then (impl_NetSource.l0 k (List.replicate (wrap64 (a0 - 1) : Int).toNat 0) l1 (l1.length : Int) 0) else (none)) else (none)) = some (r1, r2) := by rw [if_pos rfl] at H; exact H
    clear H
    have H := H1
    clear H1
    obtain ⟨ji5, hji5⟩ : ∃ j_ : Int, (wrap64 (a0 - 1)) = j_ := ⟨_, rfl⟩
    replace H : (if 0 ≤ (ji5) then (if (ji5 : Int).toNat ≤ 35184372088832 then (impl_NetSource.l0 k (List.replicate (ji5 : Int).toNat 0) l1 (l1.length : Int) 0) else (none)) else (none)) = some (r1, r2) := by first | (rw [hji5] at H; exact H) | (simp only [hji5] at H ⊢; exact H)
    (try rw [hji5] at A3)
    have hji5w : (IntKind.i64.wrap (a0 - 1)) = ji5 := (i64_w _).trans hji5
    by_cases c6 : 0 ≤ (ji5)
    · rw [if_pos c6] at H
      have c6b0 := eq_true c6
      have c6b1 : decide (0 ≤ (ji5)) = true := decide_eq_true c6
      clear c6
      by_cases c7 : (ji5 : Int).toNat ≤ 35184372088832
      · rw [if_pos c7] at H
        have c7b0 := eq_true c7
        have c7b1 : decide ((ji5 : Int).toNat ≤ 35184372088832) = true := decide_eq_true c7
        clear c7
        obtain ⟨y534, hy534⟩ : ∃ y_ : List Int, y_ = (List.replicate (ji5 : Int).toNat 0) := ⟨_, rfl⟩
        replace H : (impl_NetSource.l0 k y534 l1 (l1.length : Int) 0) = some (r1, r2) := by first | (rw [hy534]; with_reducible exact H) | (have H2_ := (Option.bind_some _ _).symm.trans H; rw [hy534]; with_reducible exact H2_) | (have H2_ := (Option.bind_some _ _).symm.trans H; with_reducible exact H2_) | with_reducible exact H | (rw [hy534]; exact H) | exact H
        have Ny534 := Aside0.mk hy534
        clear hy534
        have H' := Aside0.mk H
        clear H
        go_enter Try.func36, Try.ntmps36
        go_wp2_with (first | ((with_reducible refine gate_callee (f := 48) rfl ?_); refine goesL_ (some 11) rfl rfl Try.func48 (by kernel_rfl) rfl #[.int .i64 a0, .slice A1 l1.length c1] rfl (by (try simp only [List.map_toArray, List.map_cons, List.map_nil]); first | done | rfl | (simp only [List.length_drop, List.length_take]; rfl)) ?_; (with_reducible refine (impl_NetValid.calls k a0 _ _ l1 true _ ?side1 ?side2 A3.out).mono ?_); (case side1 => repeat (first | exact HR1.out | (with_reducible refine Kd.C_alloc ?_ _) | (with_reducible refine Kd.C_drewN ?_ _) | (with_reducible refine Kd.C_drew ?_))); (case side2 => exact HC1.out); rintro e w8 ⟨rfl, hb⟩; refine ⟨_, rfl, ?_⟩; have n0_ := Aside0.mk (below_step (by repeat (first | (with_reducible first | exact HB.out | apply below_alloc | apply pw_below_drewN | apply below_drew1) | exact HB.out)) hb); clear HB; have HB := n0_; clear n0_; (try clear hb); (try clear hb2); (try clear hk); (try clear hi)) | ((with_reducible refine gate_dst (N := 16) rfl ?_); refine Kd.R_make (Kd.int .i64) _ 3 rfl (N := 16) rfl 27 _ _ rfl ji5 rfl rfl Try.underlying27 (.int .i64 0) 8 info3 rfl (by decide) (by omega) 0 (ok := fun _ => True) (okp := fun _ => True) rfl (fun _ hk => hk) trivial (of_decide_eq_true (by first | (with_reducible assumption) | assumption)) (Nat.le_trans (Nat.mul_le_mul_right _ (of_decide_eq_true (by first | (with_reducible assumption) | assumption) : ji5.toNat ≤ 35184372088832)) (by omega)) (Below.refl _ _) (Nat.le_refl _) ?_; intro v535 w9 ho10 hb hg_ hnew_; clear hg_ hnew_; (first | rw [← Ny534.out] at ho10 | (simp only [Int.reduceToNat] at ho10; rw [← Ny534.out] at ho10)); have n0_ := Aside0.mk (Kd.R_lower ho10 (below_size (by repeat (first | (with_reducible first | exact HB.out | apply below_alloc | apply pw_below_drewN | apply below_drew1) | exact HB.out)))); have n1_ := Aside0.mk (below_step (by repeat (first | (with_reducible first | exact HB.out | apply below_alloc | apply pw_below_drewN | apply below_drew1) | exact HB.out)) hb); clear HB; have HO536 := n0_; have HB := n1_; clear n0_ n1_; clear hb ho10))
        go_loopg [19] k (fun kq v19 w' => ∃ (x6_1 : List Int) (x19_1 : Int), v19 = .int .i64 x19_1 ∧ Aside0 (impl_NetSource.l0 kq x6_1 l1 (l1.length : Int) x19_1 = some (r1, r2)) ∧ Aside0 (kq ≤ k) ∧ Aside0 (Kd.R (Kd.int .i64) 3 w' w.heap.size (fun _ => True) v535 x6_1) ∧ Aside0 (Below w.heap.size w w'))
        case atStart => exact ⟨(y534), (0), (by first | rfl | (simp; done) | (simp [*]; done)), H', ⟨Nat.le_refl _⟩, ⟨by (with_reducible repeat (first | apply Kd.R_alloc | apply Kd.R_drewN | apply Kd.R_drew)); exact HO536.out⟩, ⟨by repeat (first | (with_reducible first | exact HB.out | apply below_alloc | apply pw_below_drewN | apply below_drew1) | exact HB.out)⟩⟩
        case round =>
          clear H'
          try clear c1
          try clear p2
          try clear c3
          try clear c4
          try clear c6
          try clear c6b0
          try clear c6b1
          try clear p6
          try clear c7
          try clear c7b0
          try clear c7b1
          obtain ⟨x6_1, x19_1, rfl, HA, HK1, HO_6, HB⟩ := hrel
          cases gk with
          | zero => exact absurd HA.out (by simp [impl_NetSource.l0])
          | succ k1 =>
            have H := HA.out
            clear HA
            simp only [impl_NetSource.l0] at H
            by_cases c11 : x19_1 < (l1.length : Int)
            · rw [if_pos c11] at H
              have c11b0 : decide (x19_1 < (l1.length : Int)) = true := decide_eq_true c11
              clear c11
              by_cases c12 : 0 ≤ x19_1
              · rw [if_pos c12] at H
                have c12b0 : decide (0 ≤ x19_1) = true := decide_eq_true c12
                clear c12
                by_cases c13 : x19_1 < (l1.length : Int)
                · rw [if_pos c13] at H
                  have c13b0 : decide (x19_1 < (l1.length : Int)) = true := decide_eq_true c13
                  clear c13
                  by_cases c14 : ((rd_T62 l1 x19_1).f1) > 0
                  · rw [if_pos c14] at H
                    have c14b0 : decide (0 < ((rd_T62 l1 x19_1).f1)) = true := decide_eq_true c14
                    clear c14
                    obtain ⟨ji15, hji15⟩ : ∃ j_ : Int, (wrap64 (((rd_T62 l1 x19_1).f1) - 1)) = j_ := ⟨_, rfl⟩
                    replace H : (if 0 ≤ (ji15) then (if (ji15) < (x6_1.length : Int) then ((some (x6_1.set ((ji15) : Int).toNat (wrap64 ((rd x6_1 (ji15)) + (wrap64 (((rd_T62 l1 x19_1).f3) * ((rd_T62 l1 x19_1).f2))))) : List Int)).bind fun y540 => (if ((rd_T62 l1 x19_1).f0) > 0 then (if 0 ≤ (wrap64 (((rd_T62 l1 x19_1).f0) - 1)) then (if (wrap64 (((rd_T62 l1 x19_1).f0) - 1)) < (x6_1.length : Int) then (impl_NetSource.l0 k1 (y540.set ((wrap64 (((rd_T62 l1 x19_1).f0) - 1)) : Int).toNat (wrap64 ((rd y540 (wrap64 (((rd_T62 l1 x19_1).f0) - 1))) - (wrap64 (((rd_T62 l1 x19_1).f3) * ((rd_T62 l1 x19_1).f2)))))) l1 (l1.length : Int) (wrap64 (x19_1 + 1))) else (none)) else (none)) else (impl_NetSource.l0 k1 y540 l1 (l1.length : Int) (wrap64 (x19_1 + 1))))) else (none)) else (none)) = some (r1, r2) := by first | (rw [hji15] at H; exact H) | (simp only [hji15] at H ⊢; exact H)
                    have hji15w : (IntKind.i64.wrap (((rd_T62 l1 x19_1).f1) - 1)) = ji15 := (i64_w _).trans hji15
                    by_cases c16 : 0 ≤ (ji15)
                    · rw [if_pos c16] at H
                      have c16b0 : decide (0 ≤ (ji15)) = true := decide_eq_true c16
                      clear c16
                      by_cases c17 : (ji15) < (x6_1.length : Int)
                      · rw [if_pos c17] at H
                        have c17b0 : decide ((ji15) < (x6_1.length : Int)) = true := decide_eq_true c17
                        clear c17
                        obtain ⟨y540, hy540⟩ : ∃ y_ : List Int, y_ = (x6_1.set ((ji15) : Int).toNat (wrap64 ((rd x6_1 (ji15)) + (wrap64 (((rd_T62 l1 x19_1).f3) * ((rd_T62 l1 x19_1).f2)))))) := ⟨_, rfl⟩
                        replace H : (if ((rd_T62 l1 x19_1).f0) > 0 then (if 0 ≤ (wrap64 (((rd_T62 l1 x19_1).f0) - 1)) then (if (wrap64 (((rd_T62 l1 x19_1).f0) - 1)) < (x6_1.length : Int) then (impl_NetSource.l0 k1 (y540.set ((wrap64 (((rd_T62 l1 x19_1).f0) - 1)) : Int).toNat (wrap64 ((rd y540 (wrap64 (((rd_T62 l1 x19_1).f0) - 1))) - (wrap64 (((rd_T62 l1 x19_1).f3) * ((rd_T62 l1 x19_1).f2)))))) l1 (l1.length : Int) (wrap64 (x19_1 + 1))) else (none)) else (none)) else (impl_NetSource.l0 k1 y540 l1 (l1.length : Int) (wrap64 (x19_1 + 1)))) = some (r1, r2) := by first | (rw [hy540]; with_reducible exact H) | (have H2_ := (Option.bind_some _ _).symm.trans H; rw [hy540]; with_reducible exact H2_) | (have H2_ := (Option.bind_some _ _).symm.trans H; with_reducible exact H2_) | with_reducible exact H | (rw [hy540]; exact H) | exact H
                        have Ny540 := Aside0.mk hy540
                        clear hy540
                        by_cases c19 : ((rd_T62 l1 x19_1).f0) > 0
                        · rw [if_pos c19] at H
                          have c19b0 : decide (0 < ((rd_T62 l1 x19_1).f0)) = true := decide_eq_true c19
                          clear c19
                          obtain ⟨ji20, hji20⟩ : ∃ j_ : Int, (wrap64 (((rd_T62 l1 x19_1).f0) - 1)) = j_ := ⟨_, rfl⟩
                          replace H : (if 0 ≤ (ji20) then (if (ji20) < (x6_1.length : Int) then (impl_NetSource.l0 k1 (y540.set ((ji20) : Int).toNat (wrap64 ((rd y540 (ji20)) - (wrap64 (((rd_T62 l1 x19_1).f3) * ((rd_T62 l1 x19_1).f2)))))) l1 (l1.length : Int) (wrap64 (x19_1 + 1))) else (none)) else (none)) = some (r1, r2) := by first | (rw [hji20] at H; exact H) | (simp only [hji20] at H ⊢; exact H)
                          have hji20w : (IntKind.i64.wrap (((rd_T62 l1 x19_1).f0) - 1)) = ji20 := (i64_w _).trans hji20
                          by_cases c21 : 0 ≤ (ji20)
                          · rw [if_pos c21] at H
                            have c21b0 : decide (0 ≤ (ji20)) = true := decide_eq_true c21
                            clear c21
                            by_cases c22 : (ji20) < (x6_1.length : Int)
                            · rw [if_pos c22] at H
                              have c22b0 : decide ((ji20) < (x6_1.length : Int)) = true := decide_eq_true c22
                              clear c22
                              obtain ⟨y542, hy542⟩ : ∃ y_ : List Int, y_ = (y540.set ((ji20) : Int).toNat (wrap64 ((rd y540 (ji20)) - (wrap64 (((rd_T62 l1 x19_1).f3) * ((rd_T62 l1 x19_1).f2)))))) := ⟨_, rfl⟩
                              replace H : (impl_NetSource.l0 k1 y542 l1 (l1.length : Int) (wrap64 (x19_1 + 1))) = some (r1, r2) := by first | (rw [hy542]; with_reducible exact H) | (have H2_ := (Option.bind_some _ _).symm.trans H; rw [hy542]; with_reducible exact H2_) | (have H2_ := (Option.bind_some _ _).symm.trans H; with_reducible exact H2_) | with_reducible exact H | (rw [hy542]; exact H) | exact H
                              have Ny542 := Aside0.mk hy542
                              clear hy542
                              have H' := Aside0.mk H
                              clear H
                              have p537 : 0 ≤ (x19_1 : Int) := of_decide_eq_true (by first | (with_reducible assumption) | assumption)
                              have q537 : x19_1 < (l1.length : Int) := of_decide_eq_true (by first | (with_reducible assumption) | assumption)
                              obtain ⟨ad537, e537, hx537_0, hx537_1, hx537_2, hx537_3⟩ := at_T62 HR1.out x19_1 p537 q537
                              cases e537
                              replace hx537_0 := (HB.out.cell (World.block_lt_of_cell? w _ hx537_0)).trans hx537_0
                              replace hx537_1 := (HB.out.cell (World.block_lt_of_cell? w _ hx537_1)).trans hx537_1
                              replace hx537_2 := (HB.out.cell (World.block_lt_of_cell? w _ hx537_2)).trans hx537_2
                              replace hx537_3 := (HB.out.cell (World.block_lt_of_cell? w _ hx537_3)).trans hx537_3
                              replace p537 := eq_true p537
                              replace q537 := eq_true q537
                              try go_wp2_with (first | ((with_reducible refine gate_dst (N := 8) rfl ?_); refine box_event ?hg (N := 8) ?hd (cs := #[.int .i64 0, .int .i64 0, .int .i64 0, .int .i64 0]) (t := 62) ?hr ?_; (case hd => rfl); (case hg => rfl); (case hr => first | (go_simp; done) | (go_simp; rfl)); intro gb538 hg w24 hbox hb; have n0_ := Aside0.mk (Kd.R_below (by (with_reducible repeat (first | apply Kd.R_alloc | apply Kd.R_drewN | apply Kd.R_drew)); exact HO_6.out) hb); have n1_ := Aside0.mk (below_step (by repeat (first | (with_reducible first | exact HB.out | apply below_alloc | apply pw_below_drewN | apply below_drew1) | exact HB.out)) hb); have n2_ := Aside0.mk (hbox); have n3_ := Aside0.mk ((by rw [hg]; exact (below_size (by repeat (first | (with_reducible first | exact HB.out | apply below_alloc | apply pw_below_drewN | apply below_drew1) | exact HB.out))) : w.heap.size ≤ gb538)); have n4_ := Aside0.mk ((by rw [hg]; exact (below_size (by repeat (first | (with_reducible first | exact HB.out | apply below_alloc | apply pw_below_drewN | apply below_drew1) | exact HB.out))) : w.heap.size ≤ gb538)); clear HO_6; clear HB; have HO_6 := n0_; have HB := n1_; have BK538 := n2_; have GW538 := n3_; have GE538 := n4_; clear n0_ n1_ n2_ n3_ n4_; clear hb hbox hg; have hcz25_0 : w24.cell? ⟨gb538, 0, none⟩ = some (.int .i64 0) := (blk_cell BK538.out 0).trans rfl; have hcz25_1 : w24.cell? ⟨gb538, 1, none⟩ = some (.int .i64 0) := (blk_cell BK538.out 1).trans rfl; have hcz25_2 : w24.cell? ⟨gb538, 2, none⟩ = some (.int .i64 0) := (blk_cell BK538.out 2).trans rfl; have hcz25_3 : w24.cell? ⟨gb538, 3, none⟩ = some (.int .i64 0) := (blk_cell BK538.out 3).trans rfl; have hfz25_0 := blk_frozen BK538.out 0; have hfz25_1 := blk_frozen BK538.out 1; have hfz25_2 := blk_frozen BK538.out 2; have hfz25_3 := blk_frozen BK538.out 3))
                              have n0_ : Aside0 (Kd.R (Kd.int .i64) 3 ((((w24.setCell ⟨gb538, 0, none⟩ (.int .i64 ((rd_T62 l1 x19_1).f0))).setCell ⟨gb538, 1, none⟩ (.int .i64 ((rd_T62 l1 x19_1).f1))).setCell ⟨gb538, 2, none⟩ (.int .i64 ((rd_T62 l1 x19_1).f2))).setCell ⟨gb538, 3, none⟩ (.int .i64 ((rd_T62 l1 x19_1).f3))) w.heap.size (fun _ => True) v535 x6_1) := ⟨by (with_reducible repeat (first | apply Kd.R_alloc | apply Kd.R_drewN | apply Kd.R_drew)); exact Kd.R_mono (Kd.R_far (p := ⟨gb538, 3, none⟩) (Kd.R_far (p := ⟨gb538, 2, none⟩) (Kd.R_far (p := ⟨gb538, 1, none⟩) (Kd.R_far (p := ⟨gb538, 0, none⟩) (Kd.R_types HO_6.out BK538.out (by decide)) (fun _ hk => hk.2) (.int .i64 ((rd_T62 l1 x19_1).f0))) (fun _ hk => hk.2) (.int .i64 ((rd_T62 l1 x19_1).f1))) (fun _ hk => hk.2) (.int .i64 ((rd_T62 l1 x19_1).f2))) (fun _ hk => hk.2) (.int .i64 ((rd_T62 l1 x19_1).f3))) (fun _ hk => trivial)⟩
                              have n1_ : Aside0 (((((w24.setCell ⟨gb538, 0, none⟩ (.int .i64 ((rd_T62 l1 x19_1).f0))).setCell ⟨gb538, 1, none⟩ (.int .i64 ((rd_T62 l1 x19_1).f1))).setCell ⟨gb538, 2, none⟩ (.int .i64 ((rd_T62 l1 x19_1).f2))).setCell ⟨gb538, 3, none⟩ (.int .i64 ((rd_T62 l1 x19_1).f3))).heap[gb538]? = some (.cells #[.int .i64 ((rd_T62 l1 x19_1).f0), .int .i64 ((rd_T62 l1 x19_1).f1), .int .i64 ((rd_T62 l1 x19_1).f2), .int .i64 ((rd_T62 l1 x19_1).f3)] 62 (0, 0))) := ⟨by (with_reducible repeat (first | refine blk_drewN ?_ _ | refine blk_drew ?_ | refine blk_alloc ?_ _)); refine blk_put (cs := #[.int .i64 ((rd_T62 l1 x19_1).f0), .int .i64 ((rd_T62 l1 x19_1).f1), .int .i64 ((rd_T62 l1 x19_1).f2), .int .i64 0]) ?_ 3 _ rfl; (with_reducible repeat (first | refine blk_drewN ?_ _ | refine blk_drew ?_ | refine blk_alloc ?_ _)); refine blk_put (cs := #[.int .i64 ((rd_T62 l1 x19_1).f0), .int .i64 ((rd_T62 l1 x19_1).f1), .int .i64 0, .int .i64 0]) ?_ 2 _ rfl; (with_reducible repeat (first | refine blk_drewN ?_ _ | refine blk_drew ?_ | refine blk_alloc ?_ _)); refine blk_put (cs := #[.int .i64 ((rd_T62 l1 x19_1).f0), .int .i64 0, .int .i64 0, .int .i64 0]) ?_ 1 _ rfl; (with_reducible repeat (first | refine blk_drewN ?_ _ | refine blk_drew ?_ | refine blk_alloc ?_ _)); refine blk_put (cs := #[.int .i64 0, .int .i64 0, .int .i64 0, .int .i64 0]) ?_ 0 _ rfl; (with_reducible repeat (first | refine blk_drewN ?_ _ | refine blk_drew ?_ | refine blk_alloc ?_ _)); exact BK538.out⟩
                              have n2_ : Aside0 (Below w.heap.size w ((((w24.setCell ⟨gb538, 0, none⟩ (.int .i64 ((rd_T62 l1 x19_1).f0))).setCell ⟨gb538, 1, none⟩ (.int .i64 ((rd_T62 l1 x19_1).f1))).setCell ⟨gb538, 2, none⟩ (.int .i64 ((rd_T62 l1 x19_1).f2))).setCell ⟨gb538, 3, none⟩ (.int .i64 ((rd_T62 l1 x19_1).f3)))) := ⟨by repeat (first | (with_reducible first | exact HB.out | apply below_alloc | apply pw_below_drewN | apply below_drew1 | refine below_set ?_ GE538.out) | exact HB.out)⟩
                              (try clear HO_6)
                              (try clear BK538)
                              (try clear HB)
                              generalize ((((w24.setCell ⟨gb538, 0, none⟩ (.int .i64 ((rd_T62 l1 x19_1).f0))).setCell ⟨gb538, 1, none⟩ (.int .i64 ((rd_T62 l1 x19_1).f1))).setCell ⟨gb538, 2, none⟩ (.int .i64 ((rd_T62 l1 x19_1).f2))).setCell ⟨gb538, 3, none⟩ (.int .i64 ((rd_T62 l1 x19_1).f3))) = w26 at n0_ n1_ n2_ ⊢
                              have HO_6 := n0_
                              have BK538 := n1_
                              have HB := n2_
                              clear n0_ n1_ n2_
                              have n0_ := Aside0.mk (Kd.R_drew HO_6.out)
                              have n1_ := Aside0.mk (blk_drew BK538.out)
                              have n2_ := Aside0.mk (below_drew1 HB.out)
                              clear HO_6
                              clear BK538
                              clear HB
                              have HO_6 := n0_
                              have BK538 := n1_
                              have HB := n2_
                              clear n0_ n1_ n2_
                              obtain ⟨Ao28, co28, eo28⟩ := Kd.R_slice HO_6.out
                              (first | subst eo28 | (injection eo28 with f1_ f2_ f3_; have f4_ := f1_.symm; have f5_ := f3_.symm; clear f1_ f2_ f3_; subst f4_; subst f5_))
                              have p539 : 0 ≤ ((ji15) : Int) := of_decide_eq_true (by first | (with_reducible assumption) | assumption)
                              have q539 : (ji15) < (x6_1.length : Int) := of_decide_eq_true (by first | (with_reducible assumption) | assumption)
                              obtain ⟨ad539, e539, hx539_0⟩ := Kd.at_int (Kd.R_reads' HO_6.out).2.2 (ji15) p539 q539
                              cases e539
                              replace p539 := eq_true p539
                              replace q539 := eq_true q539
                              have p18 : 0 ≤ ((ji15) : Int) := of_decide_eq_true (by first | (with_reducible assumption) | assumption)
                              have q18 : ((ji15) : Int) < ((x6_1.length : Int) : Int) := of_decide_eq_true (by first | (with_reducible assumption) | assumption)
                              obtain ⟨go18, co18, eo18, gb18, gl18, cl18, HG18⟩ := Kd.R_form HO_6.out (by omega)
                              (first | cases eo18 | (injection eo18 with ea_ en_ ec_; (first | subst ea_ | (injection ea_ with ea_; subst ea_)); subst ec_; clear en_))
                              have GB18 := Aside0.mk gb18
                              have GG18 := Aside0.mk HG18
                              clear gb18 gl18 HG18
                              (first | simp only [add_plain] at hx539_0 | skip)
                              obtain ⟨hx18_0, hf18_0⟩ := Kd.R_celln 0 HO_6.out ((ji15) : Int) p18 q18
                              replace p18 := eq_true p18
                              replace q18 := eq_true q18
                              have HP29 := Kd.R_putn HO_6.out ((ji15) : Int) (wrap64 ((rd x6_1 (ji15)) + (wrap64 (((rd_T62 l1 x19_1).f3) * ((rd_T62 l1 x19_1).f2)))))
                              rw [← Ny540.out] at HP29
                              have HQ29 := Aside0.mk HP29
                              clear HP29
                              refine start_ (n := 14) (S := fun w' => w'.cell? ⟨gb538, 0, none⟩ = some (.int .i64 ((rd_T62 l1 x19_1).f0)) ∧ w'.cell? ⟨gb538, 1, none⟩ = some (.int .i64 ((rd_T62 l1 x19_1).f1)) ∧ w'.cell? ⟨gb538, 2, none⟩ = some (.int .i64 ((rd_T62 l1 x19_1).f2)) ∧ w'.cell? ⟨gb538, 3, none⟩ = some (.int .i64 ((rd_T62 l1 x19_1).f3)) ∧ w'.cell? ⟨go18, ((ji15)).toNat, none⟩ = some (.int .i64 (rd x6_1 (ji15)))) (ds := [13]) #[false, false, false, false, false, false, false, false, false, false, false, false, false, false] (by kernel_rfl) rfl rfl ⟨(blk_cell BK538.out 0).trans rfl, (blk_cell BK538.out 1).trans rfl, (blk_cell BK538.out 2).trans rfl, (blk_cell BK538.out 3).trans rfl, hx539_0⟩ (fun hHeld => ?_); refine with_tabW impl_NetSource.tab8 impl_NetSource.bits8 (fun HT_ HW_ => ?_)
                              generalize w26.drew = w27 at HO_6 BK538 HB GG18 HQ29 hf18_0 hx18_0 hx539_0 hHeld ⊢
                              refine pure_ (i := 0) (N := some 26) (v := ?_) (a' := ?_) #[true, false, false, false, false, false, false, false, false, false, false, false, false, false] rfl rfl (any_of HT_.out (by kernel_rfl)) (fun _ _ _ h => h) (Or.inl ⟨by rfl, ?_⟩) ?_ ?_
                              rotate_left
                              · intro w'
                                go_simp
                                with_reducible rfl
                              rotate_left
                              · simp only [Act.put, List.setIfInBounds_toArray, List.set_cons_zero, List.set_cons_succ, i64_w, i32_w]
                                rfl
                              refine pure_ (i := 1) (N := some 27) (v := ?_) (a' := ?_) #[true, true, false, false, false, false, false, false, false, false, false, false, false, false] rfl rfl (any_of HT_.out (by kernel_rfl)) (fun _ _ _ h => h) (Or.inl ⟨by rfl, ?_⟩) ?_ ?_
                              rotate_left
                              · intro w'
                                go_simp
                                with_reducible rfl
                              rotate_left
                              · simp only [Act.put, List.setIfInBounds_toArray, List.set_cons_zero, List.set_cons_succ, i64_w, i32_w]
                                rfl
                              refine pure_ (i := 6) (N := some 32) (v := ?_) (a' := ?_) #[true, true, false, false, false, false, true, false, false, false, false, false, false, false] rfl rfl (any_of HT_.out (by kernel_rfl)) (fun _ _ _ h => h) (Or.inl ⟨by rfl, ?_⟩) ?_ ?_
                              rotate_left
                              · intro w'
                                go_simp
                                with_reducible rfl
                              rotate_left
                              · simp only [Act.put, List.setIfInBounds_toArray, List.set_cons_zero, List.set_cons_succ, i64_w, i32_w]
                                rfl
                              refine pure_ (i := 8) (N := some 34) (v := ?_) (a' := ?_) #[true, true, false, false, false, false, true, false, true, false, false, false, false, false] rfl rfl (any_of HT_.out (by kernel_rfl)) (fun _ _ _ h => h) (Or.inl ⟨by rfl, ?_⟩) ?_ ?_
                              rotate_left
                              · intro w'
                                go_simp
                                with_reducible rfl
                              rotate_left
                              · simp only [Act.put, List.setIfInBounds_toArray, List.set_cons_zero, List.set_cons_succ, i64_w, i32_w]
                                rfl
                              refine take_ (i := 2) (N := some 28) (v := ?_) (a' := ?_) #[true, true, true, false, false, false, true, false, true, false, false, false, false, false] rfl rfl (take_ofW HT_.out HW_.out (by kernel_rfl)) (fun _ _ _ h => h) (Or.inl ⟨by rfl, ?_⟩) hHeld ?_ ?_
                              rotate_left
                              · rintro w' ⟨s0, s1, s2, s3, s4⟩
                                go_simp
                                with_reducible rfl
                              rotate_left
                              · simp only [Act.put, List.setIfInBounds_toArray, List.set_cons_zero, List.set_cons_succ, i64_w, i32_w]
                                rfl
                              refine pure_ (i := 3) (N := some 29) (v := ?_) (a' := ?_) #[true, true, true, true, false, false, true, false, true, false, false, false, false, false] rfl rfl (any_of HT_.out (by kernel_rfl)) (fun _ _ _ h => h) (Or.inl ⟨by rfl, ?_⟩) ?_ ?_
                              rotate_left
                              · intro w'
                                go_simp
                                with_reducible rfl
                              rotate_left
                              · simp only [Act.put, List.setIfInBounds_toArray, List.set_cons_zero, List.set_cons_succ, i64_w, i32_w]
                                rfl
                              refine pure_ (i := 4) (N := some 30) (v := ?_) (a' := ?_) #[true, true, true, true, true, false, true, false, true, false, false, false, false, false] rfl rfl (any_of HT_.out (by kernel_rfl)) (fun _ _ _ h => h) (Or.inl ⟨by rfl, ?_⟩) ?_ ?_
                              rotate_left
                              · intro w'
                                go_simp
                                with_reducible rfl
                              rotate_left
                              · simp only [Act.put, List.setIfInBounds_toArray, List.set_cons_zero, List.set_cons_succ, i64_w, i32_w]
                                rfl
                              refine take_ (i := 5) (N := some 31) (v := ?_) (a' := ?_) #[true, true, true, true, true, true, true, false, true, false, false, false, false, false] rfl rfl (take_ofW HT_.out HW_.out (by kernel_rfl)) (fun _ _ _ h => h) (Or.inl ⟨by rfl, ?_⟩) hHeld ?_ ?_
                              rotate_left
                              · rintro w' ⟨s0, s1, s2, s3, s4⟩
                                go_simp
                                with_reducible rfl
                              rotate_left
                              · simp only [Act.put, List.setIfInBounds_toArray, List.set_cons_zero, List.set_cons_succ, i64_w, i32_w]
                                rfl
                              refine take_ (i := 7) (N := some 33) (v := ?_) (a' := ?_) #[true, true, true, true, true, true, true, true, true, false, false, false, false, false] rfl rfl (take_ofW HT_.out HW_.out (by kernel_rfl)) (fun _ _ _ h => h) (Or.inl ⟨by rfl, ?_⟩) hHeld ?_ ?_
                              rotate_left
                              · rintro w' ⟨s0, s1, s2, s3, s4⟩
                                go_simp
                                with_reducible rfl
                              rotate_left
                              · simp only [Act.put, List.setIfInBounds_toArray, List.set_cons_zero, List.set_cons_succ, i64_w, i32_w]
                                rfl
                              refine take_ (i := 9) (N := some 35) (v := ?_) (a' := ?_) #[true, true, true, true, true, true, true, true, true, true, false, false, false, false] rfl rfl (take_ofW HT_.out HW_.out (by kernel_rfl)) (fun _ _ _ h => h) (Or.inl ⟨by rfl, ?_⟩) hHeld ?_ ?_
                              rotate_left
                              · rintro w' ⟨s0, s1, s2, s3, s4⟩
                                go_simp
                                with_reducible rfl
                              rotate_left
                              · simp only [Act.put, List.setIfInBounds_toArray, List.set_cons_zero, List.set_cons_succ, i64_w, i32_w]
                                rfl
                              refine pure_ (i := 10) (N := some 36) (v := ?_) (a' := ?_) #[true, true, true, true, true, true, true, true, true, true, true, false, false, false] rfl rfl (any_of HT_.out (by kernel_rfl)) (fun _ _ _ h => h) (Or.inl ⟨by rfl, ?_⟩) ?_ ?_
                              rotate_left
                              · intro w'
                                go_simp
                                with_reducible rfl
                              rotate_left
                              · simp only [Act.put, List.setIfInBounds_toArray, List.set_cons_zero, List.set_cons_succ, i64_w, i32_w]
                                rfl
                              refine pure_ (i := 11) (N := some 37) (v := ?_) (a' := ?_) #[true, true, true, true, true, true, true, true, true, true, true, true, false, false] rfl rfl (any_of HT_.out (by kernel_rfl)) (fun _ _ _ h => h) (Or.inl ⟨by rfl, ?_⟩) ?_ ?_
                              rotate_left
                              · intro w'
                                go_simp
                                with_reducible rfl
                              rotate_left
                              · simp only [Act.put, List.setIfInBounds_toArray, List.set_cons_zero, List.set_cons_succ, i64_w, i32_w]
                                rfl
                              refine pure_ (i := 12) (N := some 38) (v := ?_) (a' := ?_) #[true, true, true, true, true, true, true, true, true, true, true, true, true, false] rfl rfl (any_of HT_.out (by kernel_rfl)) (fun _ _ _ h => h) (Or.inl ⟨by rfl, ?_⟩) ?_ ?_
                              rotate_left
                              · intro w'
                                go_simp
                                with_reducible rfl
                              rotate_left
                              · simp only [Act.put, List.setIfInBounds_toArray, List.set_cons_zero, List.set_cons_succ, i64_w, i32_w]
                                rfl
                              refine last_ (i := 13) (N := none) #[true, true, true, true, true, true, true, true, true, true, true, true, true, true] rfl rfl (one_of HT_.out (by kernel_rfl)) (by decide) (fun K hK => ?_)
                              refine skip_ (w1 := ?_) (by rfl) rfl ?_ ?_
                              rotate_left
                              · go_simp
                                rfl
                              refine hK.out _ _ ?_
                              clear hK K
                              refine done_ (done_of HT_.out (by kernel_rfl)) ?_
                              have hcz30_0 : w27.cell? ⟨gb538, 0, none⟩ = some (.int .i64 ((rd_T62 l1 x19_1).f0)) := (blk_cell BK538.out 0).trans rfl
                              have hcz30_1 : w27.cell? ⟨gb538, 1, none⟩ = some (.int .i64 ((rd_T62 l1 x19_1).f1)) := (blk_cell BK538.out 1).trans rfl
                              have hcz30_2 : w27.cell? ⟨gb538, 2, none⟩ = some (.int .i64 ((rd_T62 l1 x19_1).f2)) := (blk_cell BK538.out 2).trans rfl
                              have hcz30_3 : w27.cell? ⟨gb538, 3, none⟩ = some (.int .i64 ((rd_T62 l1 x19_1).f3)) := (blk_cell BK538.out 3).trans rfl
                              have hfz30_0 := blk_frozen BK538.out 0
                              have hfz30_1 := blk_frozen BK538.out 1
                              have hfz30_2 := blk_frozen BK538.out 2
                              have hfz30_3 := blk_frozen BK538.out 3
                              have hnd31 : gb538 ≠ go18 := (by first | exact (by have h_ := Kd.R_ne HO_6.out BK538.out (by decide); intro e_; exact h_ (by rw [e_]; rfl)) | exact Ne.symm (by have h_ := Kd.R_ne HO_6.out BK538.out (by decide); intro e_; exact h_ (by rw [e_]; rfl)))
                              have hne31 := Ne.symm hnd31
                              try go_wp2
                              have n0_ : Aside0 (Kd.R (Kd.int .i64) 3 (w27.setCell ⟨go18, ((ji15) : Int).toNat, none⟩ (.int .i64 (wrap64 ((rd x6_1 (ji15)) + (wrap64 (((rd_T62 l1 x19_1).f3) * ((rd_T62 l1 x19_1).f2))))))) w.heap.size (fun _ => True) (.slice (some ⟨go18, 0, none⟩) x6_1.length co28) y540) := ⟨by (with_reducible repeat (first | apply Kd.R_alloc | apply Kd.R_drewN | apply Kd.R_drew)); exact HQ29.out⟩
                              have n1_ : Aside0 ((w27.setCell ⟨go18, ((ji15) : Int).toNat, none⟩ (.int .i64 (wrap64 ((rd x6_1 (ji15)) + (wrap64 (((rd_T62 l1 x19_1).f3) * ((rd_T62 l1 x19_1).f2))))))).heap[gb538]? = some (.cells #[.int .i64 ((rd_T62 l1 x19_1).f0), .int .i64 ((rd_T62 l1 x19_1).f1), .int .i64 ((rd_T62 l1 x19_1).f2), .int .i64 ((rd_T62 l1 x19_1).f3)] 62 (0, 0))) := ⟨by (with_reducible repeat (first | refine blk_drewN ?_ _ | refine blk_drew ?_ | refine blk_alloc ?_ _)); refine blk_far ?_ (by have h_ := Kd.R_ne HO_6.out BK538.out (by decide); intro e_; exact h_ (by rw [e_]; rfl)) _; (with_reducible repeat (first | refine blk_drewN ?_ _ | refine blk_drew ?_ | refine blk_alloc ?_ _)); exact BK538.out⟩
                              have n2_ : Aside0 (Below w.heap.size w (w27.setCell ⟨go18, ((ji15) : Int).toNat, none⟩ (.int .i64 (wrap64 ((rd x6_1 (ji15)) + (wrap64 (((rd_T62 l1 x19_1).f3) * ((rd_T62 l1 x19_1).f2)))))))) := ⟨by repeat (first | (with_reducible first | exact HB.out | apply below_alloc | apply pw_below_drewN | apply below_drew1 | refine below_set ?_ GB18.out | refine below_set ?_ GE538.out) | exact HB.out)⟩
                              (try clear HO_6)
                              (try clear BK538)
                              (try clear HB)
                              generalize (w27.setCell ⟨go18, ((ji15) : Int).toNat, none⟩ (.int .i64 (wrap64 ((rd x6_1 (ji15)) + (wrap64 (((rd_T62 l1 x19_1).f3) * ((rd_T62 l1 x19_1).f2))))))) = w32 at n0_ n1_ n2_ ⊢
                              have HO_6 := n0_
                              have BK538 := n1_
                              have HB := n2_
                              clear n0_ n1_ n2_
                              have n0_ := Aside0.mk (Kd.R_drew HO_6.out)
                              have n1_ := Aside0.mk (blk_drew BK538.out)
                              have n2_ := Aside0.mk (below_drew1 HB.out)
                              clear HO_6
                              clear BK538
                              clear HB
                              have HO_6 := n0_
                              have BK538 := n1_
                              have HB := n2_
                              clear n0_ n1_ n2_
                              have p541 : 0 ≤ ((ji20) : Int) := of_decide_eq_true (by first | (with_reducible assumption) | assumption)
                              have q541 : (ji20) < (y540.length : Int) := (by have h_ : ((ji20) : Int) < ((x6_1.length : Int) : Int) := of_decide_eq_true (by first | (with_reducible assumption) | assumption); first | (have e_ := (Kd.R_reads' HO_6.out).1; omega) | simpa only [Ny540.out, List.length_set] using h_)
                              have ql541 : (((ji20) : Int) < ((x6_1.length : Int) : Int)) = True := eq_true (of_decide_eq_true (by first | (with_reducible assumption) | assumption))
                              obtain ⟨ad541, e541, hx541_0⟩ := Kd.at_int (Kd.R_reads' HO_6.out).2.2 (ji20) p541 q541
                              obtain rfl : (⟨go18, 0, none⟩ : Addr) = ad541 := (by injection e541)
                              (first | simp only [add_plain] at hx541_0 | simp only [add_at] at hx541_0 | simp only [Addr.add, Nat.zero_add] at hx541_0 | skip)
                              replace p541 := eq_true p541
                              replace q541 := eq_true q541
                              have p23 : 0 ≤ ((ji20) : Int) := of_decide_eq_true (by first | (with_reducible assumption) | assumption)
                              have q23 : ((ji20) : Int) < ((x6_1.length : Int) : Int) := of_decide_eq_true (by first | (with_reducible assumption) | assumption)
                              obtain ⟨hx23_0, hf23_0⟩ := Kd.R_celln 0 HO_6.out ((ji20) : Int) p23 q23
                              replace p23 := eq_true p23
                              replace q23 := eq_true q23
                              have HP34 := Kd.R_putn HO_6.out ((ji20) : Int) (wrap64 ((rd y540 (ji20)) - (wrap64 (((rd_T62 l1 x19_1).f3) * ((rd_T62 l1 x19_1).f2)))))
                              rw [← Ny542.out] at HP34
                              have HQ34 := Aside0.mk HP34
                              clear HP34
                              refine start_ (n := 14) (S := fun w' => w'.cell? ⟨gb538, 0, none⟩ = some (.int .i64 ((rd_T62 l1 x19_1).f0)) ∧ w'.cell? ⟨gb538, 1, none⟩ = some (.int .i64 ((rd_T62 l1 x19_1).f1)) ∧ w'.cell? ⟨gb538, 2, none⟩ = some (.int .i64 ((rd_T62 l1 x19_1).f2)) ∧ w'.cell? ⟨gb538, 3, none⟩ = some (.int .i64 ((rd_T62 l1 x19_1).f3)) ∧ w'.cell? ⟨go18, ((ji20)).toNat, none⟩ = some (.int .i64 (rd y540 (ji20)))) (ds := [13]) #[false, false, false, false, false, false, false, false, false, false, false, false, false, false] (by kernel_rfl) rfl rfl ⟨(blk_cell BK538.out 0).trans rfl, (blk_cell BK538.out 1).trans rfl, (blk_cell BK538.out 2).trans rfl, (blk_cell BK538.out 3).trans rfl, hx541_0⟩ (fun hHeld => ?_); refine with_tabW impl_NetSource.tab10 impl_NetSource.bits10 (fun HT_ HW_ => ?_)
                              generalize w32.drew = w33 at HO_6 BK538 HB HQ29 HQ34 hf23_0 hx23_0 hx541_0 hHeld ⊢
                              refine pure_ (i := 0) (N := some 42) (v := ?_) (a' := ?_) #[true, false, false, false, false, false, false, false, false, false, false, false, false, false] rfl rfl (any_of HT_.out (by kernel_rfl)) (fun _ _ _ h => h) (Or.inl ⟨by rfl, ?_⟩) ?_ ?_
                              rotate_left
                              · intro w'
                                go_simp
                                with_reducible rfl
                              rotate_left
                              · simp only [Act.put, List.setIfInBounds_toArray, List.set_cons_zero, List.set_cons_succ, i64_w, i32_w]
                                rfl
                              refine pure_ (i := 1) (N := some 43) (v := ?_) (a' := ?_) #[true, true, false, false, false, false, false, false, false, false, false, false, false, false] rfl rfl (any_of HT_.out (by kernel_rfl)) (fun _ _ _ h => h) (Or.inl ⟨by rfl, ?_⟩) ?_ ?_
                              rotate_left
                              · intro w'
                                go_simp
                                with_reducible rfl
                              rotate_left
                              · simp only [Act.put, List.setIfInBounds_toArray, List.set_cons_zero, List.set_cons_succ, i64_w, i32_w]
                                rfl
                              refine pure_ (i := 6) (N := some 48) (v := ?_) (a' := ?_) #[true, true, false, false, false, false, true, false, false, false, false, false, false, false] rfl rfl (any_of HT_.out (by kernel_rfl)) (fun _ _ _ h => h) (Or.inl ⟨by rfl, ?_⟩) ?_ ?_
                              rotate_left
                              · intro w'
                                go_simp
                                with_reducible rfl
                              rotate_left
                              · simp only [Act.put, List.setIfInBounds_toArray, List.set_cons_zero, List.set_cons_succ, i64_w, i32_w]
                                rfl
                              refine pure_ (i := 8) (N := some 50) (v := ?_) (a' := ?_) #[true, true, false, false, false, false, true, false, true, false, false, false, false, false] rfl rfl (any_of HT_.out (by kernel_rfl)) (fun _ _ _ h => h) (Or.inl ⟨by rfl, ?_⟩) ?_ ?_
                              rotate_left
                              · intro w'
                                go_simp
                                with_reducible rfl
                              rotate_left
                              · simp only [Act.put, List.setIfInBounds_toArray, List.set_cons_zero, List.set_cons_succ, i64_w, i32_w]
                                rfl
                              refine take_ (i := 2) (N := some 44) (v := ?_) (a' := ?_) #[true, true, true, false, false, false, true, false, true, false, false, false, false, false] rfl rfl (take_ofW HT_.out HW_.out (by kernel_rfl)) (fun _ _ _ h => h) (Or.inl ⟨by rfl, ?_⟩) hHeld ?_ ?_
                              rotate_left
                              · rintro w' ⟨s0, s1, s2, s3, s4⟩
                                go_simp
                                with_reducible rfl
                              rotate_left
                              · simp only [Act.put, List.setIfInBounds_toArray, List.set_cons_zero, List.set_cons_succ, i64_w, i32_w]
                                rfl
                              refine pure_ (i := 3) (N := some 45) (v := ?_) (a' := ?_) #[true, true, true, true, false, false, true, false, true, false, false, false, false, false] rfl rfl (any_of HT_.out (by kernel_rfl)) (fun _ _ _ h => h) (Or.inl ⟨by rfl, ?_⟩) ?_ ?_
                              rotate_left
                              · intro w'
                                go_simp
                                with_reducible rfl
                              rotate_left
                              · simp only [Act.put, List.setIfInBounds_toArray, List.set_cons_zero, List.set_cons_succ, i64_w, i32_w]
                                rfl
                              refine pure_ (i := 4) (N := some 46) (v := ?_) (a' := ?_) #[true, true, true, true, true, false, true, false, true, false, false, false, false, false] rfl rfl (any_of HT_.out (by kernel_rfl)) (fun _ _ _ h => h) (Or.inl ⟨by rfl, ?_⟩) ?_ ?_
                              rotate_left
                              · intro w'
                                go_simp
                                with_reducible rfl
                              rotate_left
                              · simp only [Act.put, List.setIfInBounds_toArray, List.set_cons_zero, List.set_cons_succ, i64_w, i32_w]
                                rfl
                              refine take_ (i := 5) (N := some 47) (v := ?_) (a' := ?_) #[true, true, true, true, true, true, true, false, true, false, false, false, false, false] rfl rfl (take_ofW HT_.out HW_.out (by kernel_rfl)) (fun _ _ _ h => h) (Or.inl ⟨by rfl, ?_⟩) hHeld ?_ ?_
                              rotate_left
                              · rintro w' ⟨s0, s1, s2, s3, s4⟩
                                go_simp
                                with_reducible rfl
                              rotate_left
                              · simp only [Act.put, List.setIfInBounds_toArray, List.set_cons_zero, List.set_cons_succ, i64_w, i32_w]
                                rfl
                              refine take_ (i := 7) (N := some 49) (v := ?_) (a' := ?_) #[true, true, true, true, true, true, true, true, true, false, false, false, false, false] rfl rfl (take_ofW HT_.out HW_.out (by kernel_rfl)) (fun _ _ _ h => h) (Or.inl ⟨by rfl, ?_⟩) hHeld ?_ ?_
                              rotate_left
                              · rintro w' ⟨s0, s1, s2, s3, s4⟩
                                go_simp
                                with_reducible rfl
                              rotate_left
                              · simp only [Act.put, List.setIfInBounds_toArray, List.set_cons_zero, List.set_cons_succ, i64_w, i32_w]
                                rfl
                              refine take_ (i := 9) (N := some 51) (v := ?_) (a' := ?_) #[true, true, true, true, true, true, true, true, true, true, false, false, false, false] rfl rfl (take_ofW HT_.out HW_.out (by kernel_rfl)) (fun _ _ _ h => h) (Or.inl ⟨by rfl, ?_⟩) hHeld ?_ ?_
                              rotate_left
                              · rintro w' ⟨s0, s1, s2, s3, s4⟩
                                go_simp
                                with_reducible rfl
                              rotate_left
                              · simp only [Act.put, List.setIfInBounds_toArray, List.set_cons_zero, List.set_cons_succ, i64_w, i32_w]
                                rfl
                              refine pure_ (i := 10) (N := some 52) (v := ?_) (a' := ?_) #[true, true, true, true, true, true, true, true, true, true, true, false, false, false] rfl rfl (any_of HT_.out (by kernel_rfl)) (fun _ _ _ h => h) (Or.inl ⟨by rfl, ?_⟩) ?_ ?_
                              rotate_left
                              · intro w'
                                go_simp
                                with_reducible rfl
                              rotate_left
                              · simp only [Act.put, List.setIfInBounds_toArray, List.set_cons_zero, List.set_cons_succ, i64_w, i32_w]
                                rfl
                              refine pure_ (i := 11) (N := some 53) (v := ?_) (a' := ?_) #[true, true, true, true, true, true, true, true, true, true, true, true, false, false] rfl rfl (any_of HT_.out (by kernel_rfl)) (fun _ _ _ h => h) (Or.inl ⟨by rfl, ?_⟩) ?_ ?_
                              rotate_left
                              · intro w'
                                go_simp
                                with_reducible rfl
                              rotate_left
                              · simp only [Act.put, List.setIfInBounds_toArray, List.set_cons_zero, List.set_cons_succ, i64_w, i32_w]
                                rfl
                              refine pure_ (i := 12) (N := some 54) (v := ?_) (a' := ?_) #[true, true, true, true, true, true, true, true, true, true, true, true, true, false] rfl rfl (any_of HT_.out (by kernel_rfl)) (fun _ _ _ h => h) (Or.inl ⟨by rfl, ?_⟩) ?_ ?_
                              rotate_left
                              · intro w'
                                go_simp
                                with_reducible rfl
                              rotate_left
                              · simp only [Act.put, List.setIfInBounds_toArray, List.set_cons_zero, List.set_cons_succ, i64_w, i32_w]
                                rfl
                              refine last_ (i := 13) (N := none) #[true, true, true, true, true, true, true, true, true, true, true, true, true, true] rfl rfl (one_of HT_.out (by kernel_rfl)) (by decide) (fun K hK => ?_)
                              refine skip_ (w1 := ?_) (by rfl) rfl ?_ ?_
                              rotate_left
                              · go_simp
                                rfl
                              refine hK.out _ _ ?_
                              clear hK K
                              refine done_ (done_of HT_.out (by kernel_rfl)) ?_
                              try go_wp2
                              go_roundg k1
                              case measure => have := HK1.out; omega
                              case rel => exact ⟨(y542), (wrap64 (x19_1 + 1)), (by first | rfl | (simp; done) | (simp [*]; done)), H', ⟨by have := HK1.out; omega⟩, ⟨by (with_reducible repeat (first | apply Kd.R_alloc | apply Kd.R_drewN | apply Kd.R_drew)); exact HQ34.out⟩, ⟨by repeat (first | (with_reducible first | exact HB.out | apply below_alloc | apply pw_below_drewN | apply below_drew1 | refine below_set ?_ GB18.out | refine below_set ?_ GE538.out) | exact HB.out)⟩⟩
                            · rw [if_neg c22] at H
                              exact absurd H (by simp)
                          · rw [if_neg c21] at H
                            exact absurd H (by simp)
                        · rw [if_neg c19] at H
                          have c19b0 : decide (0 < ((rd_T62 l1 x19_1).f0)) = false := decide_eq_false c19
                          clear c19
                          have H' := Aside0.mk H
                          clear H
                          have p537 : 0 ≤ (x19_1 : Int) := of_decide_eq_true (by first | (with_reducible assumption) | assumption)
                          have q537 : x19_1 < (l1.length : Int) := of_decide_eq_true (by first | (with_reducible assumption) | assumption)
                          obtain ⟨ad537, e537, hx537_0, hx537_1, hx537_2, hx537_3⟩ := at_T62 HR1.out x19_1 p537 q537
                          cases e537
                          replace hx537_0 := (HB.out.cell (World.block_lt_of_cell? w _ hx537_0)).trans hx537_0
                          replace hx537_1 := (HB.out.cell (World.block_lt_of_cell? w _ hx537_1)).trans hx537_1
                          replace hx537_2 := (HB.out.cell (World.block_lt_of_cell? w _ hx537_2)).trans hx537_2
                          replace hx537_3 := (HB.out.cell (World.block_lt_of_cell? w _ hx537_3)).trans hx537_3
                          replace p537 := eq_true p537
                          replace q537 := eq_true q537
                          try go_wp2_with (first | ((with_reducible refine gate_dst (N := 8) rfl ?_); refine box_event ?hg (N := 8) ?hd (cs := #[.int .i64 0, .int .i64 0, .int .i64 0, .int .i64 0]) (t := 62) ?hr ?_; (case hd => rfl); (case hg => rfl); (case hr => first | (go_simp; done) | (go_simp; rfl)); intro gb538 hg w35 hbox hb; have n0_ := Aside0.mk (Kd.R_below (by (with_reducible repeat (first | apply Kd.R_alloc | apply Kd.R_drewN | apply Kd.R_drew)); exact HO_6.out) hb); have n1_ := Aside0.mk (below_step (by repeat (first | (with_reducible first | exact HB.out | apply below_alloc | apply pw_below_drewN | apply below_drew1) | exact HB.out)) hb); have n2_ := Aside0.mk (hbox); have n3_ := Aside0.mk ((by rw [hg]; exact (below_size (by repeat (first | (with_reducible first | exact HB.out | apply below_alloc | apply pw_below_drewN | apply below_drew1) | exact HB.out))) : w.heap.size ≤ gb538)); have n4_ := Aside0.mk ((by rw [hg]; exact (below_size (by repeat (first | (with_reducible first | exact HB.out | apply below_alloc | apply pw_below_drewN | apply below_drew1) | exact HB.out))) : w.heap.size ≤ gb538)); clear HO_6; clear HB; have HO_6 := n0_; have HB := n1_; have BK538 := n2_; have GW538 := n3_; have GE538 := n4_; clear n0_ n1_ n2_ n3_ n4_; clear hb hbox hg; have hcz36_0 : w35.cell? ⟨gb538, 0, none⟩ = some (.int .i64 0) := (blk_cell BK538.out 0).trans rfl; have hcz36_1 : w35.cell? ⟨gb538, 1, none⟩ = some (.int .i64 0) := (blk_cell BK538.out 1).trans rfl; have hcz36_2 : w35.cell? ⟨gb538, 2, none⟩ = some (.int .i64 0) := (blk_cell BK538.out 2).trans rfl; have hcz36_3 : w35.cell? ⟨gb538, 3, none⟩ = some (.int .i64 0) := (blk_cell BK538.out 3).trans rfl; have hfz36_0 := blk_frozen BK538.out 0; have hfz36_1 := blk_frozen BK538.out 1; have hfz36_2 := blk_frozen BK538.out 2; have hfz36_3 := blk_frozen BK538.out 3))
                          have n0_ : Aside0 (Kd.R (Kd.int .i64) 3 ((((w35.setCell ⟨gb538, 0, none⟩ (.int .i64 ((rd_T62 l1 x19_1).f0))).setCell ⟨gb538, 1, none⟩ (.int .i64 ((rd_T62 l1 x19_1).f1))).setCell ⟨gb538, 2, none⟩ (.int .i64 ((rd_T62 l1 x19_1).f2))).setCell ⟨gb538, 3, none⟩ (.int .i64 ((rd_T62 l1 x19_1).f3))) w.heap.size (fun _ => True) v535 x6_1) := ⟨by (with_reducible repeat (first | apply Kd.R_alloc | apply Kd.R_drewN | apply Kd.R_drew)); exact Kd.R_mono (Kd.R_far (p := ⟨gb538, 3, none⟩) (Kd.R_far (p := ⟨gb538, 2, none⟩) (Kd.R_far (p := ⟨gb538, 1, none⟩) (Kd.R_far (p := ⟨gb538, 0, none⟩) (Kd.R_types HO_6.out BK538.out (by decide)) (fun _ hk => hk.2) (.int .i64 ((rd_T62 l1 x19_1).f0))) (fun _ hk => hk.2) (.int .i64 ((rd_T62 l1 x19_1).f1))) (fun _ hk => hk.2) (.int .i64 ((rd_T62 l1 x19_1).f2))) (fun _ hk => hk.2) (.int .i64 ((rd_T62 l1 x19_1).f3))) (fun _ hk => trivial)⟩
                          have n1_ : Aside0 (((((w35.setCell ⟨gb538, 0, none⟩ (.int .i64 ((rd_T62 l1 x19_1).f0))).setCell ⟨gb538, 1, none⟩ (.int .i64 ((rd_T62 l1 x19_1).f1))).setCell ⟨gb538, 2, none⟩ (.int .i64 ((rd_T62 l1 x19_1).f2))).setCell ⟨gb538, 3, none⟩ (.int .i64 ((rd_T62 l1 x19_1).f3))).heap[gb538]? = some (.cells #[.int .i64 ((rd_T62 l1 x19_1).f0), .int .i64 ((rd_T62 l1 x19_1).f1), .int .i64 ((rd_T62 l1 x19_1).f2), .int .i64 ((rd_T62 l1 x19_1).f3)] 62 (0, 0))) := ⟨by (with_reducible repeat (first | refine blk_drewN ?_ _ | refine blk_drew ?_ | refine blk_alloc ?_ _)); refine blk_put (cs := #[.int .i64 ((rd_T62 l1 x19_1).f0), .int .i64 ((rd_T62 l1 x19_1).f1), .int .i64 ((rd_T62 l1 x19_1).f2), .int .i64 0]) ?_ 3 _ rfl; (with_reducible repeat (first | refine blk_drewN ?_ _ | refine blk_drew ?_ | refine blk_alloc ?_ _)); refine blk_put (cs := #[.int .i64 ((rd_T62 l1 x19_1).f0), .int .i64 ((rd_T62 l1 x19_1).f1), .int .i64 0, .int .i64 0]) ?_ 2 _ rfl; (with_reducible repeat (first | refine blk_drewN ?_ _ | refine blk_drew ?_ | refine blk_alloc ?_ _)); refine blk_put (cs := #[.int .i64 ((rd_T62 l1 x19_1).f0), .int .i64 0, .int .i64 0, .int .i64 0]) ?_ 1 _ rfl; (with_reducible repeat (first | refine blk_drewN ?_ _ | refine blk_drew ?_ | refine blk_alloc ?_ _)); refine blk_put (cs := #[.int .i64 0, .int .i64 0, .int .i64 0, .int .i64 0]) ?_ 0 _ rfl; (with_reducible repeat (first | refine blk_drewN ?_ _ | refine blk_drew ?_ | refine blk_alloc ?_ _)); exact BK538.out⟩
                          have n2_ : Aside0 (Below w.heap.size w ((((w35.setCell ⟨gb538, 0, none⟩ (.int .i64 ((rd_T62 l1 x19_1).f0))).setCell ⟨gb538, 1, none⟩ (.int .i64 ((rd_T62 l1 x19_1).f1))).setCell ⟨gb538, 2, none⟩ (.int .i64 ((rd_T62 l1 x19_1).f2))).setCell ⟨gb538, 3, none⟩ (.int .i64 ((rd_T62 l1 x19_1).f3)))) := ⟨by repeat (first | (with_reducible first | exact HB.out | apply below_alloc | apply pw_below_drewN | apply below_drew1 | refine below_set ?_ GE538.out) | exact HB.out)⟩
                          (try clear HO_6)
                          (try clear BK538)
                          (try clear HB)
                          generalize ((((w35.setCell ⟨gb538, 0, none⟩ (.int .i64 ((rd_T62 l1 x19_1).f0))).setCell ⟨gb538, 1, none⟩ (.int .i64 ((rd_T62 l1 x19_1).f1))).setCell ⟨gb538, 2, none⟩ (.int .i64 ((rd_T62 l1 x19_1).f2))).setCell ⟨gb538, 3, none⟩ (.int .i64 ((rd_T62 l1 x19_1).f3))) = w37 at n0_ n1_ n2_ ⊢
                          have HO_6 := n0_
                          have BK538 := n1_
                          have HB := n2_
                          clear n0_ n1_ n2_
                          have n0_ := Aside0.mk (Kd.R_drew HO_6.out)
                          have n1_ := Aside0.mk (blk_drew BK538.out)
                          have n2_ := Aside0.mk (below_drew1 HB.out)
                          clear HO_6
                          clear BK538
                          clear HB
                          have HO_6 := n0_
                          have BK538 := n1_
                          have HB := n2_
                          clear n0_ n1_ n2_
                          obtain ⟨Ao39, co39, eo39⟩ := Kd.R_slice HO_6.out
                          (first | subst eo39 | (injection eo39 with f1_ f2_ f3_; have f4_ := f1_.symm; have f5_ := f3_.symm; clear f1_ f2_ f3_; subst f4_; subst f5_))
                          have p539 : 0 ≤ ((ji15) : Int) := of_decide_eq_true (by first | (with_reducible assumption) | assumption)
                          have q539 : (ji15) < (x6_1.length : Int) := of_decide_eq_true (by first | (with_reducible assumption) | assumption)
                          obtain ⟨ad539, e539, hx539_0⟩ := Kd.at_int (Kd.R_reads' HO_6.out).2.2 (ji15) p539 q539
                          cases e539
                          replace p539 := eq_true p539
                          replace q539 := eq_true q539
                          have p18 : 0 ≤ ((ji15) : Int) := of_decide_eq_true (by first | (with_reducible assumption) | assumption)
                          have q18 : ((ji15) : Int) < ((x6_1.length : Int) : Int) := of_decide_eq_true (by first | (with_reducible assumption) | assumption)
                          obtain ⟨go18, co18, eo18, gb18, gl18, cl18, HG18⟩ := Kd.R_form HO_6.out (by omega)
                          (first | cases eo18 | (injection eo18 with ea_ en_ ec_; (first | subst ea_ | (injection ea_ with ea_; subst ea_)); subst ec_; clear en_))
                          have GB18 := Aside0.mk gb18
                          have GG18 := Aside0.mk HG18
                          clear gb18 gl18 HG18
                          (first | simp only [add_plain] at hx539_0 | skip)
                          obtain ⟨hx18_0, hf18_0⟩ := Kd.R_celln 0 HO_6.out ((ji15) : Int) p18 q18
                          replace p18 := eq_true p18
                          replace q18 := eq_true q18
                          have HP40 := Kd.R_putn HO_6.out ((ji15) : Int) (wrap64 ((rd x6_1 (ji15)) + (wrap64 (((rd_T62 l1 x19_1).f3) * ((rd_T62 l1 x19_1).f2)))))
                          rw [← Ny540.out] at HP40
                          have HQ40 := Aside0.mk HP40
                          clear HP40
                          refine start_ (n := 14) (S := fun w' => w'.cell? ⟨gb538, 0, none⟩ = some (.int .i64 ((rd_T62 l1 x19_1).f0)) ∧ w'.cell? ⟨gb538, 1, none⟩ = some (.int .i64 ((rd_T62 l1 x19_1).f1)) ∧ w'.cell? ⟨gb538, 2, none⟩ = some (.int .i64 ((rd_T62 l1 x19_1).f2)) ∧ w'.cell? ⟨gb538, 3, none⟩ = some (.int .i64 ((rd_T62 l1 x19_1).f3)) ∧ w'.cell? ⟨go18, ((ji15)).toNat, none⟩ = some (.int .i64 (rd x6_1 (ji15)))) (ds := [13]) #[false, false, false, false, false, false, false, false, false, false, false, false, false, false] (by kernel_rfl) rfl rfl ⟨(blk_cell BK538.out 0).trans rfl, (blk_cell BK538.out 1).trans rfl, (blk_cell BK538.out 2).trans rfl, (blk_cell BK538.out 3).trans rfl, hx539_0⟩ (fun hHeld => ?_); refine with_tabW impl_NetSource.tab8 impl_NetSource.bits8 (fun HT_ HW_ => ?_)
                          generalize w37.drew = w38 at HO_6 BK538 HB GG18 HQ40 hf18_0 hx18_0 hx539_0 hHeld ⊢
                          refine pure_ (i := 0) (N := some 26) (v := ?_) (a' := ?_) #[true, false, false, false, false, false, false, false, false, false, false, false, false, false] rfl rfl (any_of HT_.out (by kernel_rfl)) (fun _ _ _ h => h) (Or.inl ⟨by rfl, ?_⟩) ?_ ?_
                          rotate_left
                          · intro w'
                            go_simp
                            with_reducible rfl
                          rotate_left
                          · simp only [Act.put, List.setIfInBounds_toArray, List.set_cons_zero, List.set_cons_succ, i64_w, i32_w]
                            rfl
                          refine pure_ (i := 1) (N := some 27) (v := ?_) (a' := ?_) #[true, true, false, false, false, false, false, false, false, false, false, false, false, false] rfl rfl (any_of HT_.out (by kernel_rfl)) (fun _ _ _ h => h) (Or.inl ⟨by rfl, ?_⟩) ?_ ?_
                          rotate_left
                          · intro w'
                            go_simp
                            with_reducible rfl
                          rotate_left
                          · simp only [Act.put, List.setIfInBounds_toArray, List.set_cons_zero, List.set_cons_succ, i64_w, i32_w]
                            rfl
                          refine pure_ (i := 6) (N := some 32) (v := ?_) (a' := ?_) #[true, true, false, false, false, false, true, false, false, false, false, false, false, false] rfl rfl (any_of HT_.out (by kernel_rfl)) (fun _ _ _ h => h) (Or.inl ⟨by rfl, ?_⟩) ?_ ?_
                          rotate_left
                          · intro w'
                            go_simp
                            with_reducible rfl
                          rotate_left
                          · simp only [Act.put, List.setIfInBounds_toArray, List.set_cons_zero, List.set_cons_succ, i64_w, i32_w]
                            rfl
                          refine pure_ (i := 8) (N := some 34) (v := ?_) (a' := ?_) #[true, true, false, false, false, false, true, false, true, false, false, false, false, false] rfl rfl (any_of HT_.out (by kernel_rfl)) (fun _ _ _ h => h) (Or.inl ⟨by rfl, ?_⟩) ?_ ?_
                          rotate_left
                          · intro w'
                            go_simp
                            with_reducible rfl
                          rotate_left
                          · simp only [Act.put, List.setIfInBounds_toArray, List.set_cons_zero, List.set_cons_succ, i64_w, i32_w]
                            rfl
                          refine take_ (i := 2) (N := some 28) (v := ?_) (a' := ?_) #[true, true, true, false, false, false, true, false, true, false, false, false, false, false] rfl rfl (take_ofW HT_.out HW_.out (by kernel_rfl)) (fun _ _ _ h => h) (Or.inl ⟨by rfl, ?_⟩) hHeld ?_ ?_
                          rotate_left
                          · rintro w' ⟨s0, s1, s2, s3, s4⟩
                            go_simp
                            with_reducible rfl
                          rotate_left
                          · simp only [Act.put, List.setIfInBounds_toArray, List.set_cons_zero, List.set_cons_succ, i64_w, i32_w]
                            rfl
                          refine pure_ (i := 3) (N := some 29) (v := ?_) (a' := ?_) #[true, true, true, true, false, false, true, false, true, false, false, false, false, false] rfl rfl (any_of HT_.out (by kernel_rfl)) (fun _ _ _ h => h) (Or.inl ⟨by rfl, ?_⟩) ?_ ?_
                          rotate_left
                          · intro w'
                            go_simp
                            with_reducible rfl
                          rotate_left
                          · simp only [Act.put, List.setIfInBounds_toArray, List.set_cons_zero, List.set_cons_succ, i64_w, i32_w]
                            rfl
                          refine pure_ (i := 4) (N := some 30) (v := ?_) (a' := ?_) #[true, true, true, true, true, false, true, false, true, false, false, false, false, false] rfl rfl (any_of HT_.out (by kernel_rfl)) (fun _ _ _ h => h) (Or.inl ⟨by rfl, ?_⟩) ?_ ?_
                          rotate_left
                          · intro w'
                            go_simp
                            with_reducible rfl
                          rotate_left
                          · simp only [Act.put, List.setIfInBounds_toArray, List.set_cons_zero, List.set_cons_succ, i64_w, i32_w]
                            rfl
                          refine take_ (i := 5) (N := some 31) (v := ?_) (a' := ?_) #[true, true, true, true, true, true, true, false, true, false, false, false, false, false] rfl rfl (take_ofW HT_.out HW_.out (by kernel_rfl)) (fun _ _ _ h => h) (Or.inl ⟨by rfl, ?_⟩) hHeld ?_ ?_
                          rotate_left
                          · rintro w' ⟨s0, s1, s2, s3, s4⟩
                            go_simp
                            with_reducible rfl
                          rotate_left
                          · simp only [Act.put, List.setIfInBounds_toArray, List.set_cons_zero, List.set_cons_succ, i64_w, i32_w]
                            rfl
                          refine take_ (i := 7) (N := some 33) (v := ?_) (a' := ?_) #[true, true, true, true, true, true, true, true, true, false, false, false, false, false] rfl rfl (take_ofW HT_.out HW_.out (by kernel_rfl)) (fun _ _ _ h => h) (Or.inl ⟨by rfl, ?_⟩) hHeld ?_ ?_
                          rotate_left
                          · rintro w' ⟨s0, s1, s2, s3, s4⟩
                            go_simp
                            with_reducible rfl
                          rotate_left
                          · simp only [Act.put, List.setIfInBounds_toArray, List.set_cons_zero, List.set_cons_succ, i64_w, i32_w]
                            rfl
                          refine take_ (i := 9) (N := some 35) (v := ?_) (a' := ?_) #[true, true, true, true, true, true, true, true, true, true, false, false, false, false] rfl rfl (take_ofW HT_.out HW_.out (by kernel_rfl)) (fun _ _ _ h => h) (Or.inl ⟨by rfl, ?_⟩) hHeld ?_ ?_
                          rotate_left
                          · rintro w' ⟨s0, s1, s2, s3, s4⟩
                            go_simp
                            with_reducible rfl
                          rotate_left
                          · simp only [Act.put, List.setIfInBounds_toArray, List.set_cons_zero, List.set_cons_succ, i64_w, i32_w]
                            rfl
                          refine pure_ (i := 10) (N := some 36) (v := ?_) (a' := ?_) #[true, true, true, true, true, true, true, true, true, true, true, false, false, false] rfl rfl (any_of HT_.out (by kernel_rfl)) (fun _ _ _ h => h) (Or.inl ⟨by rfl, ?_⟩) ?_ ?_
                          rotate_left
                          · intro w'
                            go_simp
                            with_reducible rfl
                          rotate_left
                          · simp only [Act.put, List.setIfInBounds_toArray, List.set_cons_zero, List.set_cons_succ, i64_w, i32_w]
                            rfl
                          refine pure_ (i := 11) (N := some 37) (v := ?_) (a' := ?_) #[true, true, true, true, true, true, true, true, true, true, true, true, false, false] rfl rfl (any_of HT_.out (by kernel_rfl)) (fun _ _ _ h => h) (Or.inl ⟨by rfl, ?_⟩) ?_ ?_
                          rotate_left
                          · intro w'
                            go_simp
                            with_reducible rfl
                          rotate_left
                          · simp only [Act.put, List.setIfInBounds_toArray, List.set_cons_zero, List.set_cons_succ, i64_w, i32_w]
                            rfl
                          refine pure_ (i := 12) (N := some 38) (v := ?_) (a' := ?_) #[true, true, true, true, true, true, true, true, true, true, true, true, true, false] rfl rfl (any_of HT_.out (by kernel_rfl)) (fun _ _ _ h => h) (Or.inl ⟨by rfl, ?_⟩) ?_ ?_
                          rotate_left
                          · intro w'
                            go_simp
                            with_reducible rfl
                          rotate_left
                          · simp only [Act.put, List.setIfInBounds_toArray, List.set_cons_zero, List.set_cons_succ, i64_w, i32_w]
                            rfl
                          refine last_ (i := 13) (N := none) #[true, true, true, true, true, true, true, true, true, true, true, true, true, true] rfl rfl (one_of HT_.out (by kernel_rfl)) (by decide) (fun K hK => ?_)
                          refine skip_ (w1 := ?_) (by rfl) rfl ?_ ?_
                          rotate_left
                          · go_simp
                            rfl
                          refine hK.out _ _ ?_
                          clear hK K
                          refine done_ (done_of HT_.out (by kernel_rfl)) ?_
                          have hcz41_0 : w38.cell? ⟨gb538, 0, none⟩ = some (.int .i64 ((rd_T62 l1 x19_1).f0)) := (blk_cell BK538.out 0).trans rfl
                          have hcz41_1 : w38.cell? ⟨gb538, 1, none⟩ = some (.int .i64 ((rd_T62 l1 x19_1).f1)) := (blk_cell BK538.out 1).trans rfl
                          have hcz41_2 : w38.cell? ⟨gb538, 2, none⟩ = some (.int .i64 ((rd_T62 l1 x19_1).f2)) := (blk_cell BK538.out 2).trans rfl
                          have hcz41_3 : w38.cell? ⟨gb538, 3, none⟩ = some (.int .i64 ((rd_T62 l1 x19_1).f3)) := (blk_cell BK538.out 3).trans rfl
                          have hfz41_0 := blk_frozen BK538.out 0
                          have hfz41_1 := blk_frozen BK538.out 1
                          have hfz41_2 := blk_frozen BK538.out 2
                          have hfz41_3 := blk_frozen BK538.out 3
                          have hnd42 : gb538 ≠ go18 := (by first | exact (by have h_ := Kd.R_ne HO_6.out BK538.out (by decide); intro e_; exact h_ (by rw [e_]; rfl)) | exact Ne.symm (by have h_ := Kd.R_ne HO_6.out BK538.out (by decide); intro e_; exact h_ (by rw [e_]; rfl)))
                          have hne42 := Ne.symm hnd42
                          try go_wp2
                          go_roundg k1
                          case measure => have := HK1.out; omega
                          case rel => exact ⟨(y540), (wrap64 (x19_1 + 1)), (by first | rfl | (simp; done) | (simp [*]; done)), H', ⟨by have := HK1.out; omega⟩, ⟨by (with_reducible repeat (first | apply Kd.R_alloc | apply Kd.R_drewN | apply Kd.R_drew)); exact HQ40.out⟩, ⟨by repeat (first | (with_reducible first | exact HB.out | apply below_alloc | apply pw_below_drewN | apply below_drew1 | refine below_set ?_ GB18.out | refine below_set ?_ GE538.out) | exact HB.out)⟩⟩
                      · rw [if_neg c17] at H
                        exact absurd H (by simp)
                    · rw [if_neg c16] at H
                      exact absurd H (by simp)
                  · rw [if_neg c14] at H
                    have c14b0 : decide (0 < ((rd_T62 l1 x19_1).f1)) = false := decide_eq_false c14
                    clear c14
                    by_cases c43 : ((rd_T62 l1 x19_1).f0) > 0
                    · rw [if_pos c43] at H
                      have c43b0 : decide (0 < ((rd_T62 l1 x19_1).f0)) = true := decide_eq_true c43
                      clear c43
                      obtain ⟨ji44, hji44⟩ : ∃ j_ : Int, (wrap64 (((rd_T62 l1 x19_1).f0) - 1)) = j_ := ⟨_, rfl⟩
                      replace H : (if 0 ≤ (ji44) then (if (ji44) < (x6_1.length : Int) then (impl_NetSource.l0 k1 (x6_1.set ((ji44) : Int).toNat (wrap64 ((rd x6_1 (ji44)) - (wrap64 (((rd_T62 l1 x19_1).f3) * ((rd_T62 l1 x19_1).f2)))))) l1 (l1.length : Int) (wrap64 (x19_1 + 1))) else (none)) else (none)) = some (r1, r2) := by first | (rw [hji44] at H; exact H) | (simp only [hji44] at H ⊢; exact H)
                      have hji44w : (IntKind.i64.wrap (((rd_T62 l1 x19_1).f0) - 1)) = ji44 := (i64_w _).trans hji44
                      by_cases c45 : 0 ≤ (ji44)
                      · rw [if_pos c45] at H
                        have c45b0 : decide (0 ≤ (ji44)) = true := decide_eq_true c45
                        clear c45
                        by_cases c46 : (ji44) < (x6_1.length : Int)
                        · rw [if_pos c46] at H
                          have c46b0 : decide ((ji44) < (x6_1.length : Int)) = true := decide_eq_true c46
                          clear c46
                          obtain ⟨y544, hy544⟩ : ∃ y_ : List Int, y_ = (x6_1.set ((ji44) : Int).toNat (wrap64 ((rd x6_1 (ji44)) - (wrap64 (((rd_T62 l1 x19_1).f3) * ((rd_T62 l1 x19_1).f2)))))) := ⟨_, rfl⟩
                          replace H : (impl_NetSource.l0 k1 y544 l1 (l1.length : Int) (wrap64 (x19_1 + 1))) = some (r1, r2) := by first | (rw [hy544]; with_reducible exact H) | (have H2_ := (Option.bind_some _ _).symm.trans H; rw [hy544]; with_reducible exact H2_) | (have H2_ := (Option.bind_some _ _).symm.trans H; with_reducible exact H2_) | with_reducible exact H | (rw [hy544]; exact H) | exact H
                          have Ny544 := Aside0.mk hy544
                          clear hy544
                          have H' := Aside0.mk H
                          clear H
                          have p537 : 0 ≤ (x19_1 : Int) := of_decide_eq_true (by first | (with_reducible assumption) | assumption)
                          have q537 : x19_1 < (l1.length : Int) := of_decide_eq_true (by first | (with_reducible assumption) | assumption)
                          obtain ⟨ad537, e537, hx537_0, hx537_1, hx537_2, hx537_3⟩ := at_T62 HR1.out x19_1 p537 q537
                          cases e537
                          replace hx537_0 := (HB.out.cell (World.block_lt_of_cell? w _ hx537_0)).trans hx537_0
                          replace hx537_1 := (HB.out.cell (World.block_lt_of_cell? w _ hx537_1)).trans hx537_1
                          replace hx537_2 := (HB.out.cell (World.block_lt_of_cell? w _ hx537_2)).trans hx537_2
                          replace hx537_3 := (HB.out.cell (World.block_lt_of_cell? w _ hx537_3)).trans hx537_3
                          replace p537 := eq_true p537
                          replace q537 := eq_true q537
                          try go_wp2_with (first | ((with_reducible refine gate_dst (N := 8) rfl ?_); refine box_event ?hg (N := 8) ?hd (cs := #[.int .i64 0, .int .i64 0, .int .i64 0, .int .i64 0]) (t := 62) ?hr ?_; (case hd => rfl); (case hg => rfl); (case hr => first | (go_simp; done) | (go_simp; rfl)); intro gb538 hg w48 hbox hb; have n0_ := Aside0.mk (Kd.R_below (by (with_reducible repeat (first | apply Kd.R_alloc | apply Kd.R_drewN | apply Kd.R_drew)); exact HO_6.out) hb); have n1_ := Aside0.mk (below_step (by repeat (first | (with_reducible first | exact HB.out | apply below_alloc | apply pw_below_drewN | apply below_drew1) | exact HB.out)) hb); have n2_ := Aside0.mk (hbox); have n3_ := Aside0.mk ((by rw [hg]; exact (below_size (by repeat (first | (with_reducible first | exact HB.out | apply below_alloc | apply pw_below_drewN | apply below_drew1) | exact HB.out))) : w.heap.size ≤ gb538)); have n4_ := Aside0.mk ((by rw [hg]; exact (below_size (by repeat (first | (with_reducible first | exact HB.out | apply below_alloc | apply pw_below_drewN | apply below_drew1) | exact HB.out))) : w.heap.size ≤ gb538)); clear HO_6; clear HB; have HO_6 := n0_; have HB := n1_; have BK538 := n2_; have GW538 := n3_; have GE538 := n4_; clear n0_ n1_ n2_ n3_ n4_; clear hb hbox hg; have hcz49_0 : w48.cell? ⟨gb538, 0, none⟩ = some (.int .i64 0) := (blk_cell BK538.out 0).trans rfl; have hcz49_1 : w48.cell? ⟨gb538, 1, none⟩ = some (.int .i64 0) := (blk_cell BK538.out 1).trans rfl; have hcz49_2 : w48.cell? ⟨gb538, 2, none⟩ = some (.int .i64 0) := (blk_cell BK538.out 2).trans rfl; have hcz49_3 : w48.cell? ⟨gb538, 3, none⟩ = some (.int .i64 0) := (blk_cell BK538.out 3).trans rfl; have hfz49_0 := blk_frozen BK538.out 0; have hfz49_1 := blk_frozen BK538.out 1; have hfz49_2 := blk_frozen BK538.out 2; have hfz49_3 := blk_frozen BK538.out 3))
                          have n0_ : Aside0 (Kd.R (Kd.int .i64) 3 ((((w48.setCell ⟨gb538, 0, none⟩ (.int .i64 ((rd_T62 l1 x19_1).f0))).setCell ⟨gb538, 1, none⟩ (.int .i64 ((rd_T62 l1 x19_1).f1))).setCell ⟨gb538, 2, none⟩ (.int .i64 ((rd_T62 l1 x19_1).f2))).setCell ⟨gb538, 3, none⟩ (.int .i64 ((rd_T62 l1 x19_1).f3))) w.heap.size (fun _ => True) v535 x6_1) := ⟨by (with_reducible repeat (first | apply Kd.R_alloc | apply Kd.R_drewN | apply Kd.R_drew)); exact Kd.R_mono (Kd.R_far (p := ⟨gb538, 3, none⟩) (Kd.R_far (p := ⟨gb538, 2, none⟩) (Kd.R_far (p := ⟨gb538, 1, none⟩) (Kd.R_far (p := ⟨gb538, 0, none⟩) (Kd.R_types HO_6.out BK538.out (by decide)) (fun _ hk => hk.2) (.int .i64 ((rd_T62 l1 x19_1).f0))) (fun _ hk => hk.2) (.int .i64 ((rd_T62 l1 x19_1).f1))) (fun _ hk => hk.2) (.int .i64 ((rd_T62 l1 x19_1).f2))) (fun _ hk => hk.2) (.int .i64 ((rd_T62 l1 x19_1).f3))) (fun _ hk => trivial)⟩
                          have n1_ : Aside0 (((((w48.setCell ⟨gb538, 0, none⟩ (.int .i64 ((rd_T62 l1 x19_1).f0))).setCell ⟨gb538, 1, none⟩ (.int .i64 ((rd_T62 l1 x19_1).f1))).setCell ⟨gb538, 2, none⟩ (.int .i64 ((rd_T62 l1 x19_1).f2))).setCell ⟨gb538, 3, none⟩ (.int .i64 ((rd_T62 l1 x19_1).f3))).heap[gb538]? = some (.cells #[.int .i64 ((rd_T62 l1 x19_1).f0), .int .i64 ((rd_T62 l1 x19_1).f1), .int .i64 ((rd_T62 l1 x19_1).f2), .int .i64 ((rd_T62 l1 x19_1).f3)] 62 (0, 0))) := ⟨by (with_reducible repeat (first | refine blk_drewN ?_ _ | refine blk_drew ?_ | refine blk_alloc ?_ _)); refine blk_put (cs := #[.int .i64 ((rd_T62 l1 x19_1).f0), .int .i64 ((rd_T62 l1 x19_1).f1), .int .i64 ((rd_T62 l1 x19_1).f2), .int .i64 0]) ?_ 3 _ rfl; (with_reducible repeat (first | refine blk_drewN ?_ _ | refine blk_drew ?_ | refine blk_alloc ?_ _)); refine blk_put (cs := #[.int .i64 ((rd_T62 l1 x19_1).f0), .int .i64 ((rd_T62 l1 x19_1).f1), .int .i64 0, .int .i64 0]) ?_ 2 _ rfl; (with_reducible repeat (first | refine blk_drewN ?_ _ | refine blk_drew ?_ | refine blk_alloc ?_ _)); refine blk_put (cs := #[.int .i64 ((rd_T62 l1 x19_1).f0), .int .i64 0, .int .i64 0, .int .i64 0]) ?_ 1 _ rfl; (with_reducible repeat (first | refine blk_drewN ?_ _ | refine blk_drew ?_ | refine blk_alloc ?_ _)); refine blk_put (cs := #[.int .i64 0, .int .i64 0, .int .i64 0, .int .i64 0]) ?_ 0 _ rfl; (with_reducible repeat (first | refine blk_drewN ?_ _ | refine blk_drew ?_ | refine blk_alloc ?_ _)); exact BK538.out⟩
                          have n2_ : Aside0 (Below w.heap.size w ((((w48.setCell ⟨gb538, 0, none⟩ (.int .i64 ((rd_T62 l1 x19_1).f0))).setCell ⟨gb538, 1, none⟩ (.int .i64 ((rd_T62 l1 x19_1).f1))).setCell ⟨gb538, 2, none⟩ (.int .i64 ((rd_T62 l1 x19_1).f2))).setCell ⟨gb538, 3, none⟩ (.int .i64 ((rd_T62 l1 x19_1).f3)))) := ⟨by repeat (first | (with_reducible first | exact HB.out | apply below_alloc | apply pw_below_drewN | apply below_drew1 | refine below_set ?_ GE538.out) | exact HB.out)⟩
                          (try clear HO_6)
                          (try clear BK538)
                          (try clear HB)
                          generalize ((((w48.setCell ⟨gb538, 0, none⟩ (.int .i64 ((rd_T62 l1 x19_1).f0))).setCell ⟨gb538, 1, none⟩ (.int .i64 ((rd_T62 l1 x19_1).f1))).setCell ⟨gb538, 2, none⟩ (.int .i64 ((rd_T62 l1 x19_1).f2))).setCell ⟨gb538, 3, none⟩ (.int .i64 ((rd_T62 l1 x19_1).f3))) = w50 at n0_ n1_ n2_ ⊢
                          have HO_6 := n0_
                          have BK538 := n1_
                          have HB := n2_
                          clear n0_ n1_ n2_
                          have n0_ := Aside0.mk (Kd.R_drew HO_6.out)
                          have n1_ := Aside0.mk (blk_drew BK538.out)
                          have n2_ := Aside0.mk (below_drew1 HB.out)
                          clear HO_6
                          clear BK538
                          clear HB
                          have HO_6 := n0_
                          have BK538 := n1_
                          have HB := n2_
                          clear n0_ n1_ n2_
                          obtain ⟨Ao52, co52, eo52⟩ := Kd.R_slice HO_6.out
                          (first | subst eo52 | (injection eo52 with f1_ f2_ f3_; have f4_ := f1_.symm; have f5_ := f3_.symm; clear f1_ f2_ f3_; subst f4_; subst f5_))
                          have p543 : 0 ≤ ((ji44) : Int) := of_decide_eq_true (by first | (with_reducible assumption) | assumption)
                          have q543 : (ji44) < (x6_1.length : Int) := of_decide_eq_true (by first | (with_reducible assumption) | assumption)
                          obtain ⟨ad543, e543, hx543_0⟩ := Kd.at_int (Kd.R_reads' HO_6.out).2.2 (ji44) p543 q543
                          cases e543
                          replace p543 := eq_true p543
                          replace q543 := eq_true q543
                          have p47 : 0 ≤ ((ji44) : Int) := of_decide_eq_true (by first | (with_reducible assumption) | assumption)
                          have q47 : ((ji44) : Int) < ((x6_1.length : Int) : Int) := of_decide_eq_true (by first | (with_reducible assumption) | assumption)
                          obtain ⟨go47, co47, eo47, gb47, gl47, cl47, HG47⟩ := Kd.R_form HO_6.out (by omega)
                          (first | cases eo47 | (injection eo47 with ea_ en_ ec_; (first | subst ea_ | (injection ea_ with ea_; subst ea_)); subst ec_; clear en_))
                          have GB47 := Aside0.mk gb47
                          have GG47 := Aside0.mk HG47
                          clear gb47 gl47 HG47
                          (first | simp only [add_plain] at hx543_0 | skip)
                          obtain ⟨hx47_0, hf47_0⟩ := Kd.R_celln 0 HO_6.out ((ji44) : Int) p47 q47
                          replace p47 := eq_true p47
                          replace q47 := eq_true q47
                          have HP53 := Kd.R_putn HO_6.out ((ji44) : Int) (wrap64 ((rd x6_1 (ji44)) - (wrap64 (((rd_T62 l1 x19_1).f3) * ((rd_T62 l1 x19_1).f2)))))
                          rw [← Ny544.out] at HP53
                          have HQ53 := Aside0.mk HP53
                          clear HP53
                          refine start_ (n := 14) (S := fun w' => w'.cell? ⟨gb538, 0, none⟩ = some (.int .i64 ((rd_T62 l1 x19_1).f0)) ∧ w'.cell? ⟨gb538, 1, none⟩ = some (.int .i64 ((rd_T62 l1 x19_1).f1)) ∧ w'.cell? ⟨gb538, 2, none⟩ = some (.int .i64 ((rd_T62 l1 x19_1).f2)) ∧ w'.cell? ⟨gb538, 3, none⟩ = some (.int .i64 ((rd_T62 l1 x19_1).f3)) ∧ w'.cell? ⟨go47, ((ji44)).toNat, none⟩ = some (.int .i64 (rd x6_1 (ji44)))) (ds := [13]) #[false, false, false, false, false, false, false, false, false, false, false, false, false, false] (by kernel_rfl) rfl rfl ⟨(blk_cell BK538.out 0).trans rfl, (blk_cell BK538.out 1).trans rfl, (blk_cell BK538.out 2).trans rfl, (blk_cell BK538.out 3).trans rfl, hx543_0⟩ (fun hHeld => ?_); refine with_tabW impl_NetSource.tab10 impl_NetSource.bits10 (fun HT_ HW_ => ?_)
                          generalize w50.drew = w51 at HO_6 BK538 HB GG47 HQ53 hf47_0 hx47_0 hx543_0 hHeld ⊢
                          refine pure_ (i := 0) (N := some 42) (v := ?_) (a' := ?_) #[true, false, false, false, false, false, false, false, false, false, false, false, false, false] rfl rfl (any_of HT_.out (by kernel_rfl)) (fun _ _ _ h => h) (Or.inl ⟨by rfl, ?_⟩) ?_ ?_
                          rotate_left
                          · intro w'
                            go_simp
                            with_reducible rfl
                          rotate_left
                          · simp only [Act.put, List.setIfInBounds_toArray, List.set_cons_zero, List.set_cons_succ, i64_w, i32_w]
                            rfl
                          refine pure_ (i := 1) (N := some 43) (v := ?_) (a' := ?_) #[true, true, false, false, false, false, false, false, false, false, false, false, false, false] rfl rfl (any_of HT_.out (by kernel_rfl)) (fun _ _ _ h => h) (Or.inl ⟨by rfl, ?_⟩) ?_ ?_
                          rotate_left
                          · intro w'
                            go_simp
                            with_reducible rfl
                          rotate_left
                          · simp only [Act.put, List.setIfInBounds_toArray, List.set_cons_zero, List.set_cons_succ, i64_w, i32_w]
                            rfl
                          refine pure_ (i := 6) (N := some 48) (v := ?_) (a' := ?_) #[true, true, false, false, false, false, true, false, false, false, false, false, false, false] rfl rfl (any_of HT_.out (by kernel_rfl)) (fun _ _ _ h => h) (Or.inl ⟨by rfl, ?_⟩) ?_ ?_
                          rotate_left
                          · intro w'
                            go_simp
                            with_reducible rfl
                          rotate_left
                          · simp only [Act.put, List.setIfInBounds_toArray, List.set_cons_zero, List.set_cons_succ, i64_w, i32_w]
                            rfl
                          refine pure_ (i := 8) (N := some 50) (v := ?_) (a' := ?_) #[true, true, false, false, false, false, true, false, true, false, false, false, false, false] rfl rfl (any_of HT_.out (by kernel_rfl)) (fun _ _ _ h => h) (Or.inl ⟨by rfl, ?_⟩) ?_ ?_
                          rotate_left
                          · intro w'
                            go_simp
                            with_reducible rfl
                          rotate_left
                          · simp only [Act.put, List.setIfInBounds_toArray, List.set_cons_zero, List.set_cons_succ, i64_w, i32_w]
                            rfl
                          refine take_ (i := 2) (N := some 44) (v := ?_) (a' := ?_) #[true, true, true, false, false, false, true, false, true, false, false, false, false, false] rfl rfl (take_ofW HT_.out HW_.out (by kernel_rfl)) (fun _ _ _ h => h) (Or.inl ⟨by rfl, ?_⟩) hHeld ?_ ?_
                          rotate_left
                          · rintro w' ⟨s0, s1, s2, s3, s4⟩
                            go_simp
                            with_reducible rfl
                          rotate_left
                          · simp only [Act.put, List.setIfInBounds_toArray, List.set_cons_zero, List.set_cons_succ, i64_w, i32_w]
                            rfl
                          refine pure_ (i := 3) (N := some 45) (v := ?_) (a' := ?_) #[true, true, true, true, false, false, true, false, true, false, false, false, false, false] rfl rfl (any_of HT_.out (by kernel_rfl)) (fun _ _ _ h => h) (Or.inl ⟨by rfl, ?_⟩) ?_ ?_
                          rotate_left
                          · intro w'
                            go_simp
                            with_reducible rfl
                          rotate_left
                          · simp only [Act.put, List.setIfInBounds_toArray, List.set_cons_zero, List.set_cons_succ, i64_w, i32_w]
                            rfl
                          refine pure_ (i := 4) (N := some 46) (v := ?_) (a' := ?_) #[true, true, true, true, true, false, true, false, true, false, false, false, false, false] rfl rfl (any_of HT_.out (by kernel_rfl)) (fun _ _ _ h => h) (Or.inl ⟨by rfl, ?_⟩) ?_ ?_
                          rotate_left
                          · intro w'
                            go_simp
                            with_reducible rfl
                          rotate_left
                          · simp only [Act.put, List.setIfInBounds_toArray, List.set_cons_zero, List.set_cons_succ, i64_w, i32_w]
                            rfl
                          refine take_ (i := 5) (N := some 47) (v := ?_) (a' := ?_) #[true, true, true, true, true, true, true, false, true, false, false, false, false, false] rfl rfl (take_ofW HT_.out HW_.out (by kernel_rfl)) (fun _ _ _ h => h) (Or.inl ⟨by rfl, ?_⟩) hHeld ?_ ?_
                          rotate_left
                          · rintro w' ⟨s0, s1, s2, s3, s4⟩
                            go_simp
                            with_reducible rfl
                          rotate_left
                          · simp only [Act.put, List.setIfInBounds_toArray, List.set_cons_zero, List.set_cons_succ, i64_w, i32_w]
                            rfl
                          refine take_ (i := 7) (N := some 49) (v := ?_) (a' := ?_) #[true, true, true, true, true, true, true, true, true, false, false, false, false, false] rfl rfl (take_ofW HT_.out HW_.out (by kernel_rfl)) (fun _ _ _ h => h) (Or.inl ⟨by rfl, ?_⟩) hHeld ?_ ?_
                          rotate_left
                          · rintro w' ⟨s0, s1, s2, s3, s4⟩
                            go_simp
                            with_reducible rfl
                          rotate_left
                          · simp only [Act.put, List.setIfInBounds_toArray, List.set_cons_zero, List.set_cons_succ, i64_w, i32_w]
                            rfl
                          refine take_ (i := 9) (N := some 51) (v := ?_) (a' := ?_) #[true, true, true, true, true, true, true, true, true, true, false, false, false, false] rfl rfl (take_ofW HT_.out HW_.out (by kernel_rfl)) (fun _ _ _ h => h) (Or.inl ⟨by rfl, ?_⟩) hHeld ?_ ?_
                          rotate_left
                          · rintro w' ⟨s0, s1, s2, s3, s4⟩
                            go_simp
                            with_reducible rfl
                          rotate_left
                          · simp only [Act.put, List.setIfInBounds_toArray, List.set_cons_zero, List.set_cons_succ, i64_w, i32_w]
                            rfl
                          refine pure_ (i := 10) (N := some 52) (v := ?_) (a' := ?_) #[true, true, true, true, true, true, true, true, true, true, true, false, false, false] rfl rfl (any_of HT_.out (by kernel_rfl)) (fun _ _ _ h => h) (Or.inl ⟨by rfl, ?_⟩) ?_ ?_
                          rotate_left
                          · intro w'
                            go_simp
                            with_reducible rfl
                          rotate_left
                          · simp only [Act.put, List.setIfInBounds_toArray, List.set_cons_zero, List.set_cons_succ, i64_w, i32_w]
                            rfl
                          refine pure_ (i := 11) (N := some 53) (v := ?_) (a' := ?_) #[true, true, true, true, true, true, true, true, true, true, true, true, false, false] rfl rfl (any_of HT_.out (by kernel_rfl)) (fun _ _ _ h => h) (Or.inl ⟨by rfl, ?_⟩) ?_ ?_
                          rotate_left
                          · intro w'
                            go_simp
                            with_reducible rfl
                          rotate_left
                          · simp only [Act.put, List.setIfInBounds_toArray, List.set_cons_zero, List.set_cons_succ, i64_w, i32_w]
                            rfl
                          refine pure_ (i := 12) (N := some 54) (v := ?_) (a' := ?_) #[true, true, true, true, true, true, true, true, true, true, true, true, true, false] rfl rfl (any_of HT_.out (by kernel_rfl)) (fun _ _ _ h => h) (Or.inl ⟨by rfl, ?_⟩) ?_ ?_
                          rotate_left
                          · intro w'
                            go_simp
                            with_reducible rfl
                          rotate_left
                          · simp only [Act.put, List.setIfInBounds_toArray, List.set_cons_zero, List.set_cons_succ, i64_w, i32_w]
                            rfl
                          refine last_ (i := 13) (N := none) #[true, true, true, true, true, true, true, true, true, true, true, true, true, true] rfl rfl (one_of HT_.out (by kernel_rfl)) (by decide) (fun K hK => ?_)
                          refine skip_ (w1 := ?_) (by rfl) rfl ?_ ?_
                          rotate_left
                          · go_simp
                            rfl
                          refine hK.out _ _ ?_
                          clear hK K
                          refine done_ (done_of HT_.out (by kernel_rfl)) ?_
                          try go_wp2
                          go_roundg k1
                          case measure => have := HK1.out; omega
                          case rel => exact ⟨(y544), (wrap64 (x19_1 + 1)), (by first | rfl | (simp; done) | (simp [*]; done)), H', ⟨by have := HK1.out; omega⟩, ⟨by (with_reducible repeat (first | apply Kd.R_alloc | apply Kd.R_drewN | apply Kd.R_drew)); exact HQ53.out⟩, ⟨by repeat (first | (with_reducible first | exact HB.out | apply below_alloc | apply pw_below_drewN | apply below_drew1 | refine below_set ?_ GB47.out | refine below_set ?_ GE538.out) | exact HB.out)⟩⟩
                        · rw [if_neg c46] at H
                          exact absurd H (by simp)
                      · rw [if_neg c45] at H
                        exact absurd H (by simp)
                    · rw [if_neg c43] at H
                      have c43b0 : decide (0 < ((rd_T62 l1 x19_1).f0)) = false := decide_eq_false c43
                      clear c43
                      have H' := Aside0.mk H
                      clear H
                      have p537 : 0 ≤ (x19_1 : Int) := of_decide_eq_true (by first | (with_reducible assumption) | assumption)
                      have q537 : x19_1 < (l1.length : Int) := of_decide_eq_true (by first | (with_reducible assumption) | assumption)
                      obtain ⟨ad537, e537, hx537_0, hx537_1, hx537_2, hx537_3⟩ := at_T62 HR1.out x19_1 p537 q537
                      cases e537
                      replace hx537_0 := (HB.out.cell (World.block_lt_of_cell? w _ hx537_0)).trans hx537_0
                      replace hx537_1 := (HB.out.cell (World.block_lt_of_cell? w _ hx537_1)).trans hx537_1
                      replace hx537_2 := (HB.out.cell (World.block_lt_of_cell? w _ hx537_2)).trans hx537_2
                      replace hx537_3 := (HB.out.cell (World.block_lt_of_cell? w _ hx537_3)).trans hx537_3
                      replace p537 := eq_true p537
                      replace q537 := eq_true q537
                      go_wp2_with (first | ((with_reducible refine gate_dst (N := 8) rfl ?_); refine box_event ?hg (N := 8) ?hd (cs := #[.int .i64 0, .int .i64 0, .int .i64 0, .int .i64 0]) (t := 62) ?hr ?_; (case hd => rfl); (case hg => rfl); (case hr => first | (go_simp; done) | (go_simp; rfl)); intro gb538 hg w54 hbox hb; have n0_ := Aside0.mk (Kd.R_below (by (with_reducible repeat (first | apply Kd.R_alloc | apply Kd.R_drewN | apply Kd.R_drew)); exact HO_6.out) hb); have n1_ := Aside0.mk (below_step (by repeat (first | (with_reducible first | exact HB.out | apply below_alloc | apply pw_below_drewN | apply below_drew1) | exact HB.out)) hb); have n2_ := Aside0.mk (hbox); have n3_ := Aside0.mk ((by rw [hg]; exact (below_size (by repeat (first | (with_reducible first | exact HB.out | apply below_alloc | apply pw_below_drewN | apply below_drew1) | exact HB.out))) : w.heap.size ≤ gb538)); have n4_ := Aside0.mk ((by rw [hg]; exact (below_size (by repeat (first | (with_reducible first | exact HB.out | apply below_alloc | apply pw_below_drewN | apply below_drew1) | exact HB.out))) : w.heap.size ≤ gb538)); clear HO_6; clear HB; have HO_6 := n0_; have HB := n1_; have BK538 := n2_; have GW538 := n3_; have GE538 := n4_; clear n0_ n1_ n2_ n3_ n4_; clear hb hbox hg; have hcz55_0 : w54.cell? ⟨gb538, 0, none⟩ = some (.int .i64 0) := (blk_cell BK538.out 0).trans rfl; have hcz55_1 : w54.cell? ⟨gb538, 1, none⟩ = some (.int .i64 0) := (blk_cell BK538.out 1).trans rfl; have hcz55_2 : w54.cell? ⟨gb538, 2, none⟩ = some (.int .i64 0) := (blk_cell BK538.out 2).trans rfl; have hcz55_3 : w54.cell? ⟨gb538, 3, none⟩ = some (.int .i64 0) := (blk_cell BK538.out 3).trans rfl; have hfz55_0 := blk_frozen BK538.out 0; have hfz55_1 := blk_frozen BK538.out 1; have hfz55_2 := blk_frozen BK538.out 2; have hfz55_3 := blk_frozen BK538.out 3))
                      go_roundg k1
                      case measure => have := HK1.out; omega
                      case rel => exact ⟨(x6_1), (wrap64 (x19_1 + 1)), (by first | rfl | (simp; done) | (simp [*]; done)), H', ⟨by have := HK1.out; omega⟩, ⟨by (with_reducible repeat (first | apply Kd.R_alloc | apply Kd.R_drewN | apply Kd.R_drew)); exact Kd.R_mono (Kd.R_far (p := ⟨gb538, 3, none⟩) (Kd.R_far (p := ⟨gb538, 2, none⟩) (Kd.R_far (p := ⟨gb538, 1, none⟩) (Kd.R_far (p := ⟨gb538, 0, none⟩) (Kd.R_types HO_6.out BK538.out (by decide)) (fun _ hk => hk.2) (.int .i64 ((rd_T62 l1 x19_1).f0))) (fun _ hk => hk.2) (.int .i64 ((rd_T62 l1 x19_1).f1))) (fun _ hk => hk.2) (.int .i64 ((rd_T62 l1 x19_1).f2))) (fun _ hk => hk.2) (.int .i64 ((rd_T62 l1 x19_1).f3))) (fun _ hk => trivial)⟩, ⟨by repeat (first | (with_reducible first | exact HB.out | apply below_alloc | apply pw_below_drewN | apply below_drew1 | refine below_set ?_ GE538.out) | exact HB.out)⟩⟩
                · rw [if_neg c13] at H
                  exact absurd H (by simp)
              · rw [if_neg c12] at H
                exact absurd H (by simp)
            · rw [if_neg c11] at H
              have c11b0 : decide (x19_1 < (l1.length : Int)) = false := decide_eq_false c11
              clear c11
              simp only [Option.some.injEq, Prod.mk.injEq] at H
              obtain ⟨rfl, rfl⟩ := H
              go_wp2
              go_ret2
              exact ⟨_, by first | rfl | (simp [errW_none, errW_some] <;> rfl) | (simp only [← hji5]; first | rfl | (simp [errW_none, errW_some] <;> rfl)) | (simp [*, errW_none, errW_some] <;> rfl), by (with_reducible repeat (first | apply Kd.R_alloc | apply Kd.R_drewN | apply Kd.R_drew)); exact HO_6.out, by repeat (first | (with_reducible first | exact HB.out | apply below_alloc | apply pw_below_drewN | apply below_drew1) | exact HB.out)⟩
      · rw [if_neg c7] at H
        exact absurd H (by simp)
    · rw [if_neg c6] at H
      exact absurd H (by simp)
  · replace c4 := Bool.eq_false_iff.mpr c4
    subst c4
    have H1 : (some ((([] : List Int)), false)) = some (r1, r2) := by rw [if_neg (show ¬ (false = true) by decide)] at H; exact H
    clear H
    have H := H1
    clear H1
    obtain ⟨y531, hy531⟩ : ∃ y_ : List Int, y_ = (([] : List Int)) := ⟨_, rfl⟩
    replace H : (some (y531, false)) = some (r1, r2) := by first | (rw [hy531]; with_reducible exact H) | (have H2_ := (Option.bind_some _ _).symm.trans H; rw [hy531]; with_reducible exact H2_) | (have H2_ := (Option.bind_some _ _).symm.trans H; with_reducible exact H2_) | with_reducible exact H | (rw [hy531]; exact H) | exact H
    have Ny531 := Aside0.mk hy531
    clear hy531
    simp only [Option.some.injEq, Prod.mk.injEq] at H
    obtain ⟨rfl, rfl⟩ := H
    go_enter Try.func36, Try.ntmps36
    go_wp2_with (first | ((with_reducible refine gate_callee (f := 48) rfl ?_); refine goesL_ (some 11) rfl rfl Try.func48 (by kernel_rfl) rfl #[.int .i64 a0, .slice A1 l1.length c1] rfl (by (try simp only [List.map_toArray, List.map_cons, List.map_nil]); first | done | rfl | (simp only [List.length_drop, List.length_take]; rfl)) ?_; (with_reducible refine (impl_NetValid.calls k a0 _ _ l1 false _ ?side1 ?side2 A3.out).mono ?_); (case side1 => repeat (first | exact HR1.out | (with_reducible refine Kd.C_alloc ?_ _) | (with_reducible refine Kd.C_drewN ?_ _) | (with_reducible refine Kd.C_drew ?_))); (case side2 => exact HC1.out); rintro e w56 ⟨rfl, hb⟩; refine ⟨_, rfl, ?_⟩; have n0_ := Aside0.mk (below_step (by repeat (first | (with_reducible first | exact HB.out | apply below_alloc | apply pw_below_drewN | apply below_drew1) | exact HB.out)) hb); clear HB; have HB := n0_; clear n0_; (try clear hb); (try clear hb2); (try clear hk); (try clear hi)) | ((with_reducible refine gate_dst (N := 13) rfl ?_); refine Kd.R_lit (Kd.int .i64) _ 3 ?hg (N := 13) ?hd (xs := ([] : List Int)) (inner := []) (ok := fun _ => True) (okp := fun _ => True) ?hr ?hp (fun _ hk => hk) trivial (Below.refl _ _) (Nat.le_refl _) (by simp) ?_; (case hd => rfl); (case hg => rfl); (case hr => first | (go_simp; done) | (go_simp; rfl)); (case hp => exact (Reps.none _ _)); intro v532 w57 ho58 hb hg_ hnew_; clear hg_ hnew_; (first | rw [← Ny531.out] at ho58 | (simp only [Int.reduceToNat] at ho58; rw [← Ny531.out] at ho58)); have n0_ := Aside0.mk (Kd.R_lower ho58 (below_size (by repeat (first | (with_reducible first | exact HB.out | apply below_alloc | apply pw_below_drewN | apply below_drew1) | exact HB.out)))); have n1_ := Aside0.mk (below_step (by repeat (first | (with_reducible first | exact HB.out | apply below_alloc | apply pw_below_drewN | apply below_drew1) | exact HB.out)) hb); clear HB; have HO533 := n0_; have HB := n1_; clear n0_ n1_; clear hb ho58))
    go_ret2
    exact ⟨_, by first | rfl | (simp [errW_none, errW_some] <;> rfl) | (simp [*, errW_none, errW_some] <;> rfl), by (with_reducible repeat (first | apply Kd.R_alloc | apply Kd.R_drewN | apply Kd.R_drew)); exact HO533.out, by repeat (first | (with_reducible first | exact HB.out | apply below_alloc | apply pw_below_drewN | apply below_drew1) | exact HB.out)⟩

end Go.Proofs.Ytimhiijedmfeaaa.Q
